/- What functions come to: a lattice is checked, by the program. Conditions: none. -/
import Derived.Test.YtnpoohbeicakkaaGreatDoorZAN
set_option linter.unusedVariables false
set_option linter.unusedSimpArgs false
set_option maxRecDepth 100000
namespace Zv
open Go
noncomputable section
theorem ord17_st(n:Nat)(f g:Nat→Nat)(zs:List D)(h:zs.length=17)(ty:Nat):stB (.fix ty zs) 0 (ord17 n f g)=some (.fix ty (ord17 n f g)):=stB_full h rfl
theorem ord17_tu(n:Nat)(f g:Nat→Nat):dE (ord17 n f g) 1 (some 8)=some (.agg (row8 f)):=rfl
theorem ord17_td(n:Nat)(f g:Nat→Nat):dE (ord17 n f g) 9 (some 8)=some (.agg (row8 g)):=rfl
theorem xL(p:Bool)(n:Nat)(f:Nat→Nat)(s:St):(row8 f).mapM (frz p (n+1) s)=some (row8 f):=rfl
theorem fS(a e:Int):e2 a e = .tup [.int .i64 a,.int .i64 e]:=rfl
theorem c59(n:Nat){ss:List (List UInt8)}{us:List Nat}{d e:D}(hd:Sl 1 iC ss d)(he:Sl 1 u8C us e)(hu:iM us)(hs:oS ss):cl (n+5) 59 [.agg [d,e]]=some (CHK ss us,true):=by
 rw[cK (A:=A59) rfl (n+5) _ rfl,show A59.body=B59 from rfl]
 simp only[B59,Ab.abq];rcases lY ss with⟨h1,h2⟩|⟨h1,a,er,h2,h3⟩
 ·have hn:=kY.1 h1;obtain⟨v,hv1,hv2⟩:=all_u8 ss.length hn.1.1 hn.1.2;simp only[gN,jZ,ex,iU,hd.len,he.len,↓reduceIte,Nat.reduceEqDiff,Nat.reduceAdd,Nat.reduceLeDiff,reduceCtorEq,bK,gW,eq_self,bS,bV,hd.nag,he.nag,aF (f:=106) rfl,aQ,hd.fz,c106 n hd hs,h2,fS,hv1,hv2];by_cases hl:us.length=ss.length
  ·simp only[eq_true (show(((us.length:Nat):Int)=(ss.length:Nat)) by omega),gN,jZ,ex,iU,hd.len,he.len,↓reduceIte,Nat.reduceEqDiff,Nat.reduceAdd,Nat.reduceLeDiff,reduceCtorEq,bK,gW,eq_self,bS,bV,hv1,hv2]
   generalize zC (AC.skip.seq _) _ _ _=F;generalize hz:zloop KK _ _=rl;have hall:2 ^ ss.length-1<256:=by
    have:2 ^ ss.length≤2 ^ 8:=Nat.pow_le_pow_right (by omega) hn.1.2
    omega
   have hlast:dJ .i64 ((ss.length:Int)-1)=((ss.length-1:Nat):Int):=by
    rw[gT (by omega) (by omega)];omega
   have hret:∀{i:Nat},i<ss.length→kP ss.length (uM us) i=false→(∀j,j<i→pH ss.length (uM us) j=none)→CHK ss us=e2 i 6:=fun {i} hi ho hb=>by
    rw[CHK,aH h1,aH hl,ordD,fZ hi (by rw[pH,ho];rfl) hb]
   have huM:=lI hu;refine zrange rl hz us.length (fQ (by omega)) (by omega) (fun i t s c=>s=sadd st0 0 (.fix 26 [d,e])∧c=1∧tget t 1 = .ptr 0 0∧tget t 6 = .int .i64 (ss.length:Nat)∧tget t 7 = .int .u8 ((2 ^ ss.length-1:Nat):Int)∧tget t 37=e∧∀j,j<i→pH ss.length (uM us) j=none) (by decide) (by simp[aE]) (by simp[aE]) ?_ ?_ ?_
   ·simp only[aE,↓reduceIte,Nat.reduceEqDiff,Nat.not_lt_zero];exact⟨trivial,trivial,trivial,trivial,trivial,trivial,nofun⟩
   ·rintro i t s c hi ⟨rfl,rfl,q1,q6,q7,q37,hb⟩ q39 q38;have hx:us[i]=uM us i:=(jX hi 0).symm;obtain⟨w,hw1,hw2⟩:=c107 (n+4) (uM us i) (huM i);simp only[ex,iU,↓reduceIte,Nat.reduceEqDiff,Nat.reduceAdd,Nat.reduceLeDiff,reduceCtorEq,q1,q6,q7,q37,q38,q39,he.ia1 hi,he.at1 hi,u8C,aT,hx,aF (f:=107) rfl,aQ,hw1,hw2 _ hn.1.2];cases hlt:Nat.blt (uM us i) (2 ^ ss.length)
    ·simp only[ex,iU,↓reduceIte,Nat.reduceEqDiff,Nat.reduceAdd,Nat.reduceLeDiff,reduceCtorEq,q1,q6,q7,q37,q38,q39,bR,cG,gP,beq_iff_eq,A59];rw[hret (by omega) (by rw[kP,hlt];rfl) hb];rfl
    simp only[ex,iU,↓reduceIte,Nat.reduceEqDiff,Nat.reduceAdd,Nat.reduceLeDiff,reduceCtorEq,q1,q6,q7,q37,q38,q39,bR,cG,gP,beq_iff_eq,gH i (huM i),gV i (huM i),pO];cases hbit:(uM us i).testBit i
    ·simp only[ex,iU,↓reduceIte,Nat.reduceEqDiff,Nat.reduceAdd,Nat.reduceLeDiff,reduceCtorEq,q1,q6,q7,q37,q38,q39,bR,cG,A59];rw[hret (by omega) (by rw[kP,hlt,hbit];rfl) hb];rfl
    simp only[ex,iU,↓reduceIte,Nat.reduceEqDiff,Nat.reduceAdd,Nat.reduceLeDiff,reduceCtorEq,q1,q6,q7,q37,q38,q39,bR,cG,he.len];generalize hz2:zloop KK _ _=rl2;have hgo:∀{t:Tm} {s:St} {c:Nat},s=sadd st0 0 (.fix 26 [d,e])→c=1→tget t 1 = .ptr 0 0→tget t 6 = .int .i64 (ss.length:Nat)→tget t 7 = .int .u8 ((2 ^ ss.length-1:Nat):Int)→tget t 37=e→True:=fun _ _ _ _ _ _=>trivial
    refine zrange rl2 hz2 us.length (fQ (by omega)) (by omega) (fun j t s c=>s=sadd st0 0 (.fix 26 [d,e])∧c=1∧tget t 1 = .ptr 0 0∧tget t 6 = .int .i64 (ss.length:Nat)∧tget t 7 = .int .u8 ((2 ^ ss.length-1:Nat):Int)∧tget t 37=e∧tget t 38 = .int .i64 (us.length:Nat)∧tget t 39 = .int .i64 (i:Nat)∧tget t 57=e∧tget t 8 = .int .i64 (i:Nat)∧tget t 9 = .int .u8 (uM us i:Nat)∧∀k,k<j→okA ss.length (uM us) i k=true) (by decide) (by simp[aE]) (by simp[aE]) ?_ ?_ ?_
    ·simp only[aE,↓reduceIte,Nat.reduceEqDiff,Nat.not_lt_zero,q1,q6,q7,q37,q38,q39];exact⟨trivial,trivial,trivial,trivial,trivial,trivial,trivial,trivial,trivial,trivial,trivial,nofun⟩
    ·rintro j t s c hj ⟨rfl,rfl,q1,q6,q7,q37,q38,q39,q57,q8,q9,hob⟩ q59 q58;have hx':us[j]=uM us j:=(jX hj 0).symm;have h8:uM us j&&&(2 ^ ss.length-1)<256:=Nat.lt_of_le_of_lt Nat.and_le_left (huM j);have hstep:okA ss.length (uM us) i j=true→∀k,k<j+1→okA ss.length (uM us) i k=true:=fun h k hk=>by
      rcases cY.1 hk with h1|rfl
      ·exact hob k h1
      ·exact h
     have hbad:okA ss.length (uM us) i j=false→kP ss.length (uM us) i=false:=fun h=>by
      rw[kP,tP (show j<ss.length by omega) h,Bool.and_false,Bool.and_false]
     have hall':okA ss.length (uM us) i j=true→j=ss.length-1→pH ss.length (uM us) i=none:=fun h e=>by
      rw[pH,kP,hlt,hbit,iZ.2 fun k hk=>hstep h k (by omega)];rfl
     have hend:okA ss.length (uM us) i j=true→decide (((j:Nat):Int)=((ss.length-1:Nat):Int))=true∧pH ss.length (uM us) i=none∨decide (((j:Nat):Int)=((ss.length-1:Nat):Int))=false:=fun h=>by
      by_cases e:j=ss.length-1
      ·exact .inl ⟨by simp[e],hall' h e⟩
      ·exact .inr (by simp[oG,e])
     cases hb1:(uM us i).testBit j
     ·have h:okA ss.length (uM us) i j=true:=by rw[okA,hb1];rfl
      simp only[ex,iU,↓reduceIte,Nat.reduceEqDiff,Nat.reduceAdd,Nat.reduceLeDiff,reduceCtorEq,q1,q6,q7,q8,q9,q37,q38,q39,q57,q58,q59,he.ia1 hj,he.at1 hj,u8C,aT,hx',gH j (huM i),gV j (huM i),pO,hb1,cG,bR,hlast];rcases hend h with⟨e,hp⟩|e
      ·simp only[e,ex,go1,↓reduceIte,Nat.reduceEqDiff,reduceCtorEq,q1,q6,q7,q37,q38,q39];exact⟨trivial,trivial,trivial,.inr (.inr trivial),nofun,nofun,trivial,trivial,trivial,trivial,trivial,trivial,eH hb hp⟩
      ·simp only[e,ex,go1,↓reduceIte,Nat.reduceEqDiff,reduceCtorEq,q1,q6,q7,q8,q9,q37,q38,q39,q57,q58,q59];exact⟨trivial,trivial,trivial,.inr (.inr trivial),nofun,nofun,trivial,trivial,trivial,trivial,trivial,trivial,trivial,trivial,trivial,trivial,trivial,hstep h⟩
     ·have hok:okA ss.length (uM us) i j=((Nat.beq j i || !(uM us j).testBit i)&&Nat.beq ((uM us j&&&(2 ^ ss.length-1))&&&uM us i) (uM us j&&&(2 ^ ss.length-1))):=by rw[okA,hb1];rfl
      have hb3:=andN_0 h8 (huM i);cases hb4:Nat.beq ((uM us j&&&(2 ^ ss.length-1))&&&uM us i) (uM us j&&&(2 ^ ss.length-1))
      ·have h:okA ss.length (uM us) i j=false:=by rw[hok,hb4,Bool.and_false]
       rw[hb4]at hb3;by_cases hji:j=i
       ·have hb5:decide (((j:Nat):Int)≠(i:Nat))=false:=by simp[oG,hji]
        cases hb2:(uM us j).testBit i
        ·simp only[ex,iU,↓reduceIte,Nat.reduceEqDiff,Nat.reduceAdd,Nat.reduceLeDiff,reduceCtorEq,q1,q6,q7,q8,q9,q37,q38,q39,q57,q58,q59,he.ia1 hj,he.at1 hj,u8C,aT,hx',gH j (huM i),gV j (huM i),pO,hb1,cG,bR,hlast,gH i (huM j),gV i (huM j),oI,hb2,iG (huM j) hall,lR,hb3,gP,beq_iff_eq,show(true==false)=false from rfl,show(false==true)=false from rfl,hb5,A59]
         rw[hret (by omega) (hbad h) hb];rfl
        ·simp only[ex,iU,↓reduceIte,Nat.reduceEqDiff,Nat.reduceAdd,Nat.reduceLeDiff,reduceCtorEq,q1,q6,q7,q8,q9,q37,q38,q39,q57,q58,q59,he.ia1 hj,he.at1 hj,u8C,aT,hx',gH j (huM i),gV j (huM i),pO,hb1,cG,bR,hlast,gH i (huM j),gV i (huM j),oI,hb2,iG (huM j) hall,lR,hb3,gP,beq_iff_eq,show(true==false)=false from rfl,show(false==true)=false from rfl,hb5,A59]
         rw[hret (by omega) (hbad h) hb];rfl
       ·have hb5:decide (((j:Nat):Int)≠(i:Nat))=true:=by simp[oG,hji]
        cases hb2:(uM us j).testBit i
        ·simp only[ex,iU,↓reduceIte,Nat.reduceEqDiff,Nat.reduceAdd,Nat.reduceLeDiff,reduceCtorEq,q1,q6,q7,q8,q9,q37,q38,q39,q57,q58,q59,he.ia1 hj,he.at1 hj,u8C,aT,hx',gH j (huM i),gV j (huM i),pO,hb1,cG,bR,hlast,gH i (huM j),gV i (huM j),oI,hb2,iG (huM j) hall,lR,hb3,gP,beq_iff_eq,show(true==false)=false from rfl,show(false==true)=false from rfl,hb5,A59]
         rw[hret (by omega) (hbad h) hb];rfl
        ·simp only[ex,iU,↓reduceIte,Nat.reduceEqDiff,Nat.reduceAdd,Nat.reduceLeDiff,reduceCtorEq,q1,q6,q7,q8,q9,q37,q38,q39,q57,q58,q59,he.ia1 hj,he.at1 hj,u8C,aT,hx',gH j (huM i),gV j (huM i),pO,hb1,cG,bR,hlast,gH i (huM j),gV i (huM j),oI,hb2,iG (huM j) hall,lR,hb3,gP,beq_iff_eq,show(true==false)=false from rfl,show(false==true)=false from rfl,hb5,A59]
         rw[hret (by omega) (hbad h) hb];rfl
      ·rw[hb4]at hb3;by_cases hji:j=i
       ·have hb5:decide (((j:Nat):Int)≠(i:Nat))=false:=by simp[oG,hji]
        have h:okA ss.length (uM us) i j=true:=by rw[hok,hb4,hji,fG];rfl
        cases hb2:(uM us j).testBit i
        ·skip
         simp only[ex,iU,↓reduceIte,Nat.reduceEqDiff,Nat.reduceAdd,Nat.reduceLeDiff,reduceCtorEq,q1,q6,q7,q8,q9,q37,q38,q39,q57,q58,q59,he.ia1 hj,he.at1 hj,u8C,aT,hx',gH j (huM i),gV j (huM i),pO,hb1,cG,bR,hlast,gH i (huM j),gV i (huM j),oI,hb2,iG (huM j) hall,lR,hb3,gP,beq_iff_eq,show(true==false)=false from rfl,show(false==true)=false from rfl,hb5]
         rcases hend h with⟨e,hp⟩|e
         ·simp only[e,ex,go1,↓reduceIte,Nat.reduceEqDiff,reduceCtorEq,q1,q6,q7,q37,q38,q39];exact⟨trivial,trivial,trivial,.inr (.inr trivial),nofun,nofun,trivial,trivial,trivial,trivial,trivial,trivial,eH hb hp⟩
         ·simp only[e,ex,go1,↓reduceIte,Nat.reduceEqDiff,reduceCtorEq,q1,q6,q7,q8,q9,q37,q38,q39,q57,q58,q59];exact⟨trivial,trivial,trivial,.inr (.inr trivial),nofun,nofun,trivial,trivial,trivial,trivial,trivial,trivial,trivial,trivial,trivial,trivial,trivial,hstep h⟩
        ·skip
         simp only[ex,iU,↓reduceIte,Nat.reduceEqDiff,Nat.reduceAdd,Nat.reduceLeDiff,reduceCtorEq,q1,q6,q7,q8,q9,q37,q38,q39,q57,q58,q59,he.ia1 hj,he.at1 hj,u8C,aT,hx',gH j (huM i),gV j (huM i),pO,hb1,cG,bR,hlast,gH i (huM j),gV i (huM j),oI,hb2,iG (huM j) hall,lR,hb3,gP,beq_iff_eq,show(true==false)=false from rfl,show(false==true)=false from rfl,hb5]
         rcases hend h with⟨e,hp⟩|e
         ·simp only[e,ex,go1,↓reduceIte,Nat.reduceEqDiff,reduceCtorEq,q1,q6,q7,q37,q38,q39];exact⟨trivial,trivial,trivial,.inr (.inr trivial),nofun,nofun,trivial,trivial,trivial,trivial,trivial,trivial,eH hb hp⟩
         ·simp only[e,ex,go1,↓reduceIte,Nat.reduceEqDiff,reduceCtorEq,q1,q6,q7,q8,q9,q37,q38,q39,q57,q58,q59];exact⟨trivial,trivial,trivial,.inr (.inr trivial),nofun,nofun,trivial,trivial,trivial,trivial,trivial,trivial,trivial,trivial,trivial,trivial,trivial,hstep h⟩
       ·have hb5:decide (((j:Nat):Int)≠(i:Nat))=true:=by simp[oG,hji]
        cases hb2:(uM us j).testBit i
        ·have h:okA ss.length (uM us) i j=true:=by rw[hok,hb4,hb2,iY hji];rfl
         simp only[ex,iU,↓reduceIte,Nat.reduceEqDiff,Nat.reduceAdd,Nat.reduceLeDiff,reduceCtorEq,q1,q6,q7,q8,q9,q37,q38,q39,q57,q58,q59,he.ia1 hj,he.at1 hj,u8C,aT,hx',gH j (huM i),gV j (huM i),pO,hb1,cG,bR,hlast,gH i (huM j),gV i (huM j),oI,hb2,iG (huM j) hall,lR,hb3,gP,beq_iff_eq,show(true==false)=false from rfl,show(false==true)=false from rfl,hb5]
         rcases hend h with⟨e,hp⟩|e
         ·simp only[e,ex,go1,↓reduceIte,Nat.reduceEqDiff,reduceCtorEq,q1,q6,q7,q37,q38,q39];exact⟨trivial,trivial,trivial,.inr (.inr trivial),nofun,nofun,trivial,trivial,trivial,trivial,trivial,trivial,eH hb hp⟩
         ·simp only[e,ex,go1,↓reduceIte,Nat.reduceEqDiff,reduceCtorEq,q1,q6,q7,q8,q9,q37,q38,q39,q57,q58,q59];exact⟨trivial,trivial,trivial,.inr (.inr trivial),nofun,nofun,trivial,trivial,trivial,trivial,trivial,trivial,trivial,trivial,trivial,trivial,trivial,hstep h⟩
        ·have h:okA ss.length (uM us) i j=false:=by rw[hok,hb4,hb2,iY hji];rfl
         simp only[ex,iU,↓reduceIte,Nat.reduceEqDiff,Nat.reduceAdd,Nat.reduceLeDiff,reduceCtorEq,q1,q6,q7,q8,q9,q37,q38,q39,q57,q58,q59,he.ia1 hj,he.at1 hj,u8C,aT,hx',gH j (huM i),gV j (huM i),pO,hb1,cG,bR,hlast,gH i (huM j),gV i (huM j),oI,hb2,iG (huM j) hall,lR,hb3,gP,beq_iff_eq,show(true==false)=false from rfl,show(false==true)=false from rfl,hb5,A59]
         rw[hret (by omega) (hbad h) hb];rfl
    ·rintro t s c ⟨rfl,rfl,q1,q6,q7,q37,q38,q39,q57,q8,q9,hob⟩ q59 q58;have hp:pH ss.length (uM us) i=none:=by
      rw[pH,kP,hlt,hbit,iZ.2 fun k hk=>hob k (by omega)];rfl
     simp only[ex,go1,↓reduceIte,Nat.reduceEqDiff,reduceCtorEq,q1,q6,q7,q37,q38,q39];exact⟨trivial,trivial,trivial,.inr (.inr trivial),nofun,nofun,trivial,trivial,trivial,trivial,trivial,trivial,eH hb hp⟩
   ·rintro t s c ⟨rfl,rfl,q1,q6,q7,q37,hb⟩ q39 q38;have hord:∀a,a<ss.length→kP ss.length (uM us) a=true:=fun a ha=>by
     have:=hb a (by omega)
     rw[pH]at this;cases ho:kP ss.length (uM us) a
     ·rw[ho]at this;cases this
     ·rfl
    have hself:∀a,a<ss.length→(uM us a).testBit a=true:=fun a ha=>by
     have:=hord a ha;simp only[kP,bE]at this;exact this.2.1
    have hself':∀a,a<ss.length→(dnM (uM us) ss.length ss.length a).testBit a=true:=fun a ha=>by
     rw[oO,hself a ha];simp[ha]
    have h99:=c81 (n+4) hd he hu hn.1.2 (by omega)
    rw[hl]at h99;have hCHK:CHK ss us=rY ss.length (uM us):=by
     rw[CHK,aH h1,aH hl,ordD,gU fun j hj=>hb j (by omega)]
    rw[hCHK];simp only[exq,↓reduceIte,Nat.reduceEqDiff,Nat.reduceAdd,Nat.reduceLeDiff,reduceCtorEq,q1,q6,q7,q37,q38,q39,aF (f:=81) rfl,aQ,hd.fz,he.fz,h99,uC,ord17_st _ _ _ [_,_,_,_,_,_,_,_,_,_,_,_,_,_,_,_,_] rfl];generalize hz3:zloop KK _ _=rl3;have hu8:∀i,dnM (uM us) ss.length ss.length i<256:=fun i=>dnM_u8 i hn.1.2
    refine zrange rl3 hz3 ss.length (fQ (by omega)) (by omega) (fun i t s c=>sget s 1=some (.fix 144 (ord17 ss.length (uM us) (dnM (uM us) ss.length ss.length)))∧tget t 6 = .int .i64 (ss.length:Nat)∧tget t 12 = .ptr 1 0∧∀j,j<i→xG ss.length (uM us) j=none) (by decide) (by simp[aE]) (by simp[aE,q6]) ?_ ?_ ?_
    ·simp only[aE,↓reduceIte,Nat.reduceEqDiff,Nat.not_lt_zero,q6];exact⟨trivial,trivial,trivial,nofun⟩
    ·rintro i t s c hi ⟨hs1,q6,q12,hb⟩ q96 q95;have hret:lat2 ss.length (uM us) i=lat2 ss.length (uM us) i:=rfl;simp only[exq,iU,↓reduceIte,Nat.reduceEqDiff,Nat.reduceAdd,Nat.reduceLeDiff,reduceCtorEq,hs1,q6,q12,q95,q96];generalize hz4:zloop KK _ _=rl4
     refine zrange rl4 hz4 ss.length (fQ (by omega)) (by omega) (fun j t s c=>sget s 1=some (.fix 144 (ord17 ss.length (uM us) (dnM (uM us) ss.length ss.length)))∧tget t 6 = .int .i64 (ss.length:Nat)∧tget t 12 = .ptr 1 0∧tget t 13 = .int .i64 (i:Nat)∧tget t 95 = .int .i64 (ss.length:Nat)∧tget t 96 = .int .i64 (i:Nat)∧∀k,k<j→lat2 ss.length (uM us) i k=true) (by decide) (by simp[aE]) (by simp[aE,q6]) ?_ ?_ ?_
     ·simp only[aE,↓reduceIte,Nat.reduceEqDiff,Nat.not_lt_zero,q6,q12,q95,q96];exact⟨hs1,trivial,trivial,trivial,trivial,trivial,nofun⟩
     ·rintro j t s c hj ⟨hs1,q6,q12,q13,q95,q96,hob⟩ q100 q99;have r1:=c108 (n+4) (uM us) huM hn.1.2 (show i<8 by omega) (show j<8 by omega)
      have r2:=c109 (n+4) (dnM (uM us) ss.length ss.length) hu8 hn.1.2 (show i<8 by omega) (show j<8 by omega)
      rw[bound_near hself]at r1;rw[bound_near hself']at r2;have hbad:lat2 ss.length (uM us) i j=false→rY ss.length (uM us)=e2 i 4:=fun h=>by
       rw[rY,fZ hi (by rw[xG,latB,tP hj h];rfl) hb]
      cases hn1:decide (jH (uM us) ss.length i j<0)
      ·cases hn2:decide (jH (dnM (uM us) ss.length ss.length) ss.length i j<0)
       ·have h:lat2 ss.length (uM us) i j=true:=by rw[lat2,hn1,hn2];rfl
        simp only[exq,iU,↓reduceIte,Nat.reduceEqDiff,Nat.reduceAdd,Nat.reduceLeDiff,reduceCtorEq,hs1,q6,q12,q13,q95,q96,q99,q100,ord17_tu,ord17_td,aF (f:=108) rfl,aF (f:=109) rfl,aQ,xL,r1,r2,hn1,hn2,Bool.true_or,gP,A59];exact⟨trivial,trivial,trivial,.inr (.inr trivial),nofun,nofun,trivial,trivial,trivial,trivial,trivial,trivial,fun k hk=>by
         rcases cY.1 hk with h1|rfl
         ·exact hob k h1
         ·exact h⟩
       ·have h:lat2 ss.length (uM us) i j=false:=by rw[lat2,hn1,hn2];rfl
        simp only[exq,iU,↓reduceIte,Nat.reduceEqDiff,Nat.reduceAdd,Nat.reduceLeDiff,reduceCtorEq,hs1,q6,q12,q13,q95,q96,q99,q100,ord17_tu,ord17_td,aF (f:=108) rfl,aF (f:=109) rfl,aQ,xL,r1,r2,hn1,hn2,Bool.true_or,gP,A59];rw[hbad h];rfl
      ·have h:lat2 ss.length (uM us) i j=false:=by rw[lat2,hn1];rfl
       simp only[exq,iU,↓reduceIte,Nat.reduceEqDiff,Nat.reduceAdd,Nat.reduceLeDiff,reduceCtorEq,hs1,q6,q12,q13,q95,q96,q99,q100,ord17_tu,ord17_td,aF (f:=108) rfl,aF (f:=109) rfl,aQ,xL,r1,r2,hn1,Bool.true_or,gP,show(true==false)=false from rfl,A59]
       rw[hbad h];rfl
     ·rintro t s c ⟨hs1,q6,q12,q13,q95,q96,hob⟩ q100 q99;have hp:xG ss.length (uM us) i=none:=by rw[xG,latB,iZ.2 hob];rfl
      simp only[exq,iU,↓reduceIte,Nat.reduceEqDiff,Nat.reduceAdd,Nat.reduceLeDiff,reduceCtorEq,q6,q12,q95,q96];exact⟨trivial,trivial,trivial,.inr (.inr trivial),nofun,nofun,hs1,trivial,trivial,eH hb hp⟩
    ·rintro t s c ⟨hs1,q6,q12,hb⟩ q96 q95;simp only[exq,iU,↓reduceIte,Nat.reduceEqDiff,Nat.reduceAdd,Nat.reduceLeDiff,reduceCtorEq,q6,q12,q95,q96,A59];rw[rY,gU hb];rfl
  ·simp only[aL (show ¬(((us.length:Nat):Int)=(ss.length:Nat)) by omega),gN,jZ,ex,iU,hd.len,he.len,↓reduceIte,Nat.reduceEqDiff,Nat.reduceAdd,Nat.reduceLeDiff,reduceCtorEq,bK,gW,eq_self,bS,bV,A59]
   rw[CHK,aH h1,aD hl];rfl
 ·simp only[gN,jZ,ex,iU,hd.len,he.len,↓reduceIte,Nat.reduceEqDiff,Nat.reduceAdd,Nat.reduceLeDiff,reduceCtorEq,bK,gW,eq_self,bS,bV,hd.nag,he.nag,aF (f:=106) rfl,aQ,hd.fz,c106 n hd hs,h2,fS,aL h3,A59];rw[CHK,aD (by rw[h1];decide),h2];rfl
theorem le_nat(a b:Nat):decide (((a:Nat):Int)≤(b:Nat))=Nat.ble a b:=by rw[dC];simp[Nat.ble_eq]
theorem lowerB_eq(b:UInt8):kZ b=(decide ((97:Int)≤(b.toNat:Int))&&decide ((b.toNat:Int)≤(122:Int))):=by
 rw[kZ,←le_nat,←le_nat];rfl
theorem digitB_eq(b:UInt8):tK b=(decide ((48:Int)≤(b.toNat:Int))&&decide ((b.toNat:Int)≤(57:Int))):=by
 rw[tK,←le_nat,←le_nat];rfl
theorem c183(n:Nat)(b:UInt8):cl n 183 [.int .u8 b.toNat]=some (.bool (kZ b),true):=by
 rw[cK (A:=A183) rfl n _ rfl,show A183.body=B183 from rfl,lowerB_eq]
 simp only[B183,Ab.abq];cases h3:decide ((97:Int)≤(b.toNat:Int))
 ·simp only[z0,seval,h3,A183];rfl
 ·simp only[z0,seval,h3,A183];rfl
theorem c184(n:Nat)(b:UInt8):cl n 184 [.int .u8 b.toNat]=some (.bool (tK b),true):=by
 rw[cK (A:=A184) rfl n _ rfl,show A184.body=B184 from rfl,digitB_eq]
 simp only[B184,Ab.abq];cases h3:decide ((48:Int)≤(b.toNat:Int))
 ·simp only[z0,seval,h3,A184];rfl
 ·simp only[z0,seval,h3,A184];rfl
theorem c152(n:Nat)(s:List UInt8)(hs:s.length<9223372036854775807):cl (n+1) 152 [.str s]=some (.bool (nE s),true):=by
 rw[cK (A:=A152) rfl (n+1) _ rfl,show A152.body=B152 from rfl]
 simp only[B152,Ab.abq];cases s with
 | nil=>
  simp only[z0,seval,A152,bN];rfl
 | cons b r=>
  have h1:decide (((b::r).length:Int)<1)=false:=by simp;omega
  have hi0:kQ (b::r).length (.int .i64 0)=some 0:=idxD_0 (by simp)
  have hn:nE (b::r)=(Nat.ble (b::r).length 16&&(kZ b&&(b::r).all fX)):=rfl;cases h16:decide ((16:Int)<((b::r).length:Int))
  ·have e16:Nat.ble (b::r).length 16=true:=bZ (by simp at h16;simp;omega)
   cases hb:kZ b
   ·simp only[z0,seval,h1,h16,hi0,aT,aF (f:=183) rfl,aQ,c183,hb,A152];rw[hn,hb,Bool.false_and,Bool.and_false];rfl
   ·simp only[z0,seval,h1,h16,hi0,aT,aF (f:=183) rfl,aQ,c183,hb];generalize hz:zloop KK _ _=rl;refine zfor rl hz (b::r).length (fQ hs) hs (fun i t s c=>tget t 0 = .str (b::r)∧∀j (h:j<(b::r).length),j<i→fX (b::r)[j]=true) (by simp[aE]) (by simp[aE]) ?_
    rintro i t s c hi ⟨h0,hall⟩ h3;have hall':∀(h:i<(b::r).length),fX (b::r)[i]=true→∀j (h:j<(b::r).length),j<i+1→fX (b::r)[j]=true:=fun h hc j hj hj2=>by
     rcases cY.1 hj2 with h'|rfl
     ·exact hall j hj h'
     ·exact hc
    by_cases hlt:i<(b::r).length
    ·have hd:decide ((i:Int)<((b::r).length:Int))=true:=by rw[cI];omega
     have hg:(b::r)[i]?=some (b::r)[i]:=aI hlt;have hbad:fX (b::r)[i]=false→nE (b::r)=false:=fun h=>by
      rw[hn,show(b::r).all fX=false from ?_,Bool.and_false,Bool.and_false]
      rw[←eM,cE];intro h';rw[h' _ (cB hlt)]at h;cases h
     generalize hch:(b::r)[i]=ch at hg hbad hall';cases h1:kZ ch
     ·cases h2:tK ch
      ·cases h3':decide ((ch.toNat:Int)=45)
       ·have hc:fX ch=false:=by
         rw[fX,h1,h2,Bool.false_or,Bool.false_or,←eM,Nat.beq_eq];intro h;rw[h]at h3';cases h3'
        simp only[z0,seval,hd,h0,h3,fM hlt,hg,aF (f:=183) rfl,aF (f:=184) rfl,aQ,c183,c184,h1,h2,h3',gW,dH,A152];rw[hbad hc];rfl
       ·have hc:fX ch=true:=by
         rw[fX,h1,h2,Bool.false_or,Bool.false_or,Nat.beq_eq];rw[cI]at h3';exact Int.ofNat_inj.1 h3'
        simp only[z0,seval,hd,h0,h3,fM hlt,hg,aF (f:=183) rfl,aF (f:=184) rfl,aQ,c183,c184,h1,h2,h3',gW,dH];exact⟨hlt,trivial,trivial,trivial,trivial,hall' hlt (hch▸hc)⟩
      ·have hc:fX ch=true:=by rw[fX,h1,h2];rfl
       simp only[z0,seval,hd,h0,h3,fM hlt,hg,aF (f:=183) rfl,aF (f:=184) rfl,aQ,c183,c184,h1,h2];exact⟨hlt,trivial,trivial,trivial,trivial,hall' hlt (hch▸hc)⟩
     ·have hc:fX ch=true:=by rw[fX,h1];rfl
      simp only[z0,seval,hd,h0,h3,fM hlt,hg,aF (f:=183) rfl,aF (f:=184) rfl,aQ,c183,c184,h1];exact⟨hlt,trivial,trivial,trivial,trivial,hall' hlt (hch▸hc)⟩
    ·have hd:decide ((i:Int)<((b::r).length:Int))=false:=by rw[bX];omega
     have hok:nE (b::r)=true:=by
      rw[hn,e16,hb,cE.2];· rfl
      intro x hx;obtain⟨j,hj,rfl⟩:=List.mem_iff_getElem.1 hx;exact hall j hj (by omega)
     simp only[z0,seval,hd,h0,h3,A152];rw[hok];rfl
  ·have e16:Nat.ble (b::r).length 16=false:=by rw[←eM,Nat.ble_eq];simp at h16;simp;omega
   simp only[z0,seval,h1,h16,A152];rw[hn,e16];rfl
theorem eD{i n:Nat}(h:i<n):decide ((i:Int)<(n:Int))=true:=by rw[cI];omega
theorem kB{i n:Nat}(h:n≤i):decide ((i:Int)<(n:Int))=false:=by rw[bX];omega
theorem uY{ss:List (List UInt8)}{i:Nat}(x:List UInt8):(ss.take i).contains x=true↔∃j,∃h:j<ss.length,j<i∧ss[j]=x:=by
 rw[List.contains_iff_mem,List.mem_iff_getElem];constructor
 ·rintro⟨j,hj,e⟩;rw[dG]at hj;rw[List.getElem_take]at e;exact⟨j,by omega,by omega,e⟩
 ·rintro⟨j,hj,h2,e⟩;exact⟨j,by rw[dG];omega,by rw[List.getElem_take];exact e⟩
theorem c102(n:Nat){ss:List (List UInt8)}{d:D}(hd:Sl 1 iC ss d)(hs:oS ss):cl (n+2) 102 [d]=some (mL ss,true):=by
 rw[cK (A:=A102) rfl (n+2) _ rfl,show A102.body=B102 from rfl]
 simp only[B102,Ab.abq];by_cases h1:((ss.length:Nat):Int)<1
 ·simp only[z0,seval,h1,aV,hd.len,A102];unfold mL;rw[aD (by omega)];rfl
 by_cases h8:(8:Int)<((ss.length:Nat):Int)
 ·simp only[z0,seval,h1,h8,aV,bM,hd.len,A102];unfold mL;rw[aD (by omega)];rfl
 simp only[z0,seval,h1,h8,bM,hd.len];have hnd:mL ss=scan (jD ss) (e2 0 0) ss.length 0:=aH ⟨by omega,by omega⟩
 generalize hz:zloop KK _ _=rl;refine zfor rl hz ss.length (fQ (by omega)) (by omega) (fun i t s' c=>tget t 0=d∧∀j,j<i→jD ss j=none) (by simp[aE]) (by simp[aE]) ?_
 rintro i t s' c hi ⟨h0,hb⟩ h4;by_cases hlt:i<ss.length
 ·have hsi:(ss[i]).length<9223372036854775807:=hs _ (cB hlt);cases hok:nE ss[i]
  ·have hp:jD ss i=some (e2 i 6):=by unfold jD;rw[jX hlt,hok];rfl
   simp only[z0,seval,h0,h4,hd.len,eD hlt,hd.ia1 hlt,hd.at1 hlt,iC,aT,aF (f:=152) rfl,aQ,c152 n _ hsi,hok,A102];rw[hnd,fZ hlt hp hb];rfl
  ·simp only[z0,seval,h0,h4,hd.len,eD hlt,hd.ia1 hlt,hd.at1 hlt,iC,aT,aF (f:=152) rfl,aQ,c152 n _ hsi,hok];generalize hz2:zloop KK _ _=rl2;refine zfor rl2 hz2 i (fQ (by omega)) (by omega) (fun k t s' c=>tget t 0=d∧tget t 4 = .int .i64 (i:Nat)∧∀j (h:j<ss.length),j<k→ss[j]≠ss[i]) (by simp[aE]) (by simp[aE,h0,h4]) ?_
   rintro k t s' c hk ⟨h0,h4,hne⟩ h5;by_cases hkl:k<i
   ·have hkn:k<ss.length:=by omega
    by_cases he:ss[k]=ss[i]
    ·have hp:jD ss i=some (e2 i 8):=by
      unfold jD;rw[jX hlt,hok,(uY _).2 ⟨k,hkn,hkl,he⟩];rfl
     simp only[z0,seval,h0,h4,h5,eD hkl,eG,cX,iS,AOp.kd,gI,iF,gJ,fC,dM,fH,hd.ia1 hlt,hd.at1 hlt,hd.ia1 hkn,hd.at1 hkn,iC,aT,he,A102];rw[hnd,fZ hlt hp hb];rfl
    ·simp only[z0,seval,h0,h4,h5,eD hkl,eG,cX,iS,AOp.kd,gI,iF,gJ,fC,dM,fH,hd.ia1 hlt,hd.at1 hlt,hd.ia1 hkn,hd.at1 hkn,iC,aT,he,bM];refine⟨hkl,trivial,trivial,trivial,trivial,trivial,fun j hj hj2=>?_⟩
     rcases cY.1 hj2 with h|rfl
     ·exact hne j hj h
     ·exact he
   ·have hp:jD ss i=none:=by
     unfold jD;rw[jX hlt,hok];have:(ss.take i).contains ss[i]=false:=by
      rw[←eM,uY];rintro⟨j,h1,h2,h3⟩;exact hne j h1 (by omega) h3
     rw[this];rfl
    simp only[z0,seval,h0,h4,h5,kB (show i≤k by omega)]
    exact⟨hlt,trivial,trivial,trivial,trivial,eH hb hp⟩
 ·simp only[z0,seval,h0,h4,hd.len,kB (show ss.length≤i by omega),A102]
  have e:i=ss.length:=by omega
  subst e;rw[hnd,gU hb];rfl
theorem b_rem_u8{x b:Nat}(hx:x<256):jY .rem (.int .u8 ((x >>> b:Nat):Int)) (.int .u8 2)=some (.int .u8 ((bitN x b:Nat):Int)):=by
 have h:(x >>> b) % 2=bitN x b:=by
  rw[←Nat.and_one_is_mod,bit_eq];rfl
 have h2:bitN x b<2:=by unfold bitN;split<;>omega
 show(if(2:Int)=0 then none else some (D.int .u8 (Int.tmod ((x >>> b:Nat):Int) 2)))=_
 rw[aD (by omega),show Int.tmod ((x >>> b:Nat):Int) 2=(((x >>> b) % 2:Nat):Int) from rfl,h]
theorem c56(n:Nat){us:List Nat}{d e:D}(hdn:eU d=false)(he:Sl 1 u8C us e)(hu:iM us){a:Nat}(ha:a<us.length)(b:Nat):
  cl n 56 [.agg [d,e],.int .i64 (a:Int),.int .i64 (b:Int)]=some (.bool ((uM us a).testBit b),true):=by
 rw[cK (A:=A56) rfl n _ rfl,show A56.body=B56 from rfl]
 simp only[B56,Ab.abq];have hx:us[a]=uM us a:=(jX ha 0).symm;have h0:∀k:Nat,decide ((0:Int)≤(k:Int))=true:=fun k=>by simp
 simp only[z0,seval,h0,he.len,eD ha,he.ia1 ha,he.at1 ha,u8C,aT,hx,gH b (lI hu a),b_rem_u8 (lI hu a),oI,A56];rfl
theorem c52(n:Nat){us:List Nat}{e:D}(he:Sl 1 u8C us e)(hu:iM us)(hl:us.length≤8){a b:Nat}(ha:a<us.length)(hb:b<us.length):
  cl n 52 [e,.int .i64 (a:Int),.int .i64 (b:Int)]=some (.int .i64 (jH (uM us) us.length a b),true):=by
 rw[cK (A:=A52) rfl n _ rfl,show A52.body=B52 from rfl]
 simp only[B52,Ab.abq];have hx:∀c (hc:c<us.length),us[c]=uM us c:=fun c hc=>(jX hc 0).symm
 simp only[z0,seval,eG,cX,iS,AOp.kd,gI,iF,gJ,fC,dM,fH,he.len,he.ia1 ha,he.at1 ha,he.ia1 hb,he.at1 hb,u8C,aT,hx _ ha,hx _ hb,iG (lI hu a) (lI hu b)];generalize hz:zloop KK _ _=rl
 refine zfor rl hz us.length (fQ (by omega)) (by omega) (fun i t s c=>tget t 0=e∧tget t 7 = .int .u8 ((uM us a&&&uM us b:Nat):Int)∧∀j,j<i→kL (uM us) a b j=none) (by simp[aE]) (by simp[aE]) ?_
 rintro i t s c hi ⟨h0,h7,hn⟩ h8;by_cases hlt:i<us.length
 ·by_cases e1:uM us i=uM us a&&&uM us b
  ·have hp:kL (uM us) a b i=some (i:Int):=by unfold kL;rw[e1,fG];rfl
   simp only[z0,seval,h0,h7,h8,he.len,eD hlt,he.ia1 hlt,he.at1 hlt,u8C,aT,hx _ hlt,oG,bD e1,A52];unfold jH;rw[fZ hlt hp hn];rfl
  ·have hp:kL (uM us) a b i=none:=by unfold kL;rw[iY e1];rfl
   simp only[z0,seval,h0,h7,h8,he.len,eD hlt,he.ia1 hlt,he.at1 hlt,u8C,aT,hx _ hlt,oG,aK e1];exact⟨hlt,trivial,trivial,trivial,trivial,trivial,eH hn hp⟩
 ·have e1:i=us.length:=by omega
  subst e1;simp only[z0,seval,h0,h7,h8,he.len,kB (aJ us.length),A52];unfold jH;rw[gU hn];rfl
def cells8(g:Nat→Nat)(n:Nat):List D:=(List.range n).map fun b=>.int .u8 (g b:Nat)
theorem mO(g:Nat→Nat)(n:Nat):(cells8 g n).length=n:=by simp[cells8]
theorem cells8_at(g:Nat→Nat){n b:Nat}(h:b<n):(cells8 g n)[b]?=some (.int .u8 (g b:Nat)):=by simp[cells8,h]
theorem cells8_set(g:Nat→Nat){n b:Nat}(v:Nat)(h:b<n):(cells8 g n).set b (.int .u8 (v:Nat))=cells8 (upd g b v) n:=by
 apply List.ext_getElem?;intro i;rw[List.getElem?_set,mO];by_cases hi:i<n
 ·rw[cells8_at _ hi,cells8_at _ hi];by_cases e:b=i
  ·subst e;rw[aH rfl,aH hi];simp[upd]
  ·rw[aD e];simp[upd,Ne.symm e]
 ·rw[gO (by rw[mO];omega),gO (by rw[mO];omega)]
  split
  ·omega
  ·rfl
theorem rep8(n:Nat):rep n [.int .u8 0]=cells8 (fun _=>0) n:=by
 have:∀n,(List.replicate n [D.int .u8 0]).flatten=List.replicate n (D.int .u8 0):=fun n=>by
  induction n with
  | zero=>rfl
  | succ n ih=>rw[List.replicate_succ,eI,ih,List.replicate_succ];rfl
 rw[rep,this,cells8,List.map_const',List.length_range];rfl
theorem iQ(p:Bool)(n:Nat)(s:St)(nm off sz len cap:Nat):frz p (n+1) s (.ms nm off sz len cap)=(match sget s nm with
   | some (.fix _ cs)=>bif Nat.ble (off+len*sz) cs.length then(((cs.drop off).take (len*sz)).mapM (frz p n s)).map (.sl (Nat.beq cap len) len) else none
   | some (.grow _ cs)=>bif Nat.ble (off+len*sz) cs.length then(((cs.drop off).take (len*sz)).mapM (frz p n s)).map (.sl (Nat.beq cap len) len) else none
   | _=>none):=rfl
theorem rI(p:Bool)(n:Nat)(s:St)(nm off sz len:Nat):frz p (n+1) s (.gs nm off sz len)=(match sget s nm with
   | some (.grow _ cs)=>bif Nat.ble (off+len*sz) cs.length then(((cs.drop off).take (len*sz)).mapM (frz p n s)).map (.sl false len) else none
   | _=>none):=rfl
theorem frz_cells8(p:Bool)(k:Nat)(s:St)(g:Nat→Nat)(n:Nat):(cells8 g n).mapM (frz p (k+1) s)=some (cells8 g n):=by
 have:∀l:List Nat,(l.map fun b=>D.int .u8 (g b:Nat)).mapM (frz p (k+1) s)=some (l.map fun b=>D.int .u8 (g b:Nat)):=by
  intro l
  induction l with
  | nil=>rfl
  | cons a l ih=>rw[bW,List.mapM_cons,ih];rfl
 exact this _
theorem one_u8:∀n:Nat,n<8→jY .shl (.int .u8 1) (.int .i64 (n:Int))=some (.int .u8 ((2 ^ n:Nat):Int))
 | 0,_=>rfl
 | 1,_=>rfl
 | 2,_=>rfl
 | 3,_=>rfl
 | 4,_=>rfl
 | 5,_=>rfl
 | 6,_=>rfl
 | 7,_=>rfl
 | n+8,h=>by omega
def oH(n:Nat)(us:List Nat):List Nat:=(List.range n).map (dnM (uM us) n n)
theorem Sl8(g:Nat→Nat)(n:Nat):Sl 1 u8C ((List.range n).map g) (.sl true n (cells8 g n)):=by
 have hc:cells8 g n=(((List.range n).map g).map u8C).flatten:=by
  unfold cells8
  induction (List.range n) with
  | nil=>rfl
  | cons a l ih=>simp only[bW,eI,ih];rfl
 refine⟨fun r hr=>?_,.inr ⟨true,by rw[hc];simp⟩⟩
 obtain⟨x,_,rfl⟩:=cQ.1 hr;rfl
theorem c51(n:Nat){ss:List (List UInt8)}{us:List Nat}{d e:D}(hd:Sl 1 iC ss d)(he:Sl 1 u8C us e)(hu:iM us)(hs:ss.length≤8)(hl:us.length=ss.length):
  cl (n+1) 51 [.agg [d,e]]=some (.sl true ss.length (cells8 (dnM (uM us) ss.length ss.length) ss.length),true):=by
 rw[cK (A:=A51) rfl (n+1) _ rfl,show A51.body=B51 from rfl]
 simp only[B51,Ab.abq];have hmk:(0≤(ss.length:Int)∧(ss.length:Int)≤(ss.length:Int)∧((1:Nat):Int)*(ss.length:Int)≤1099511627776∧(ss.length:Int)≤4294967296)=True:=eq_true (by omega)
 simp only[z0,↓reduceIte,Nat.reduceEqDiff,Nat.reduceAdd,Nat.reduceLeDiff,reduceCtorEq,hd.len,he.len,hd.nag,he.nag,hmk,cU,rep8];generalize hz:zloop KK _ _=rl
 refine zfor rl hz ss.length (fQ (by omega)) (by omega) (fun i t s c=>sget s 0=some (.fix 26 [d,e])∧sget s 1=some (.fix 0 (cells8 (dnM (uM us) ss.length i) ss.length))∧tget t 1 = .ptr 0 0∧tget t 3 = .ms 1 0 1 ss.length ss.length) (by simp[aE]) (by simp[aE];rfl) ?_
 rintro i t s c hi ⟨s0,s1,h1,h3⟩ h4;by_cases hlt:i<ss.length
 ·simp only[z0,↓reduceIte,Nat.reduceEqDiff,Nat.reduceAdd,Nat.reduceLeDiff,reduceCtorEq,hd.len,he.len,h1,h3,h4,s0,s1,eD hlt];generalize hz2:zloop KK _ _=rl2
  refine zfor rl2 hz2 ss.length (fQ (by omega)) (by omega) (fun j t s c=>sget s 0=some (.fix 26 [d,e])∧sget s 1=some (.fix 0 (cells8 (fun b=>if b<j then dnM (uM us) ss.length (i+1) b else dnM (uM us) ss.length i b) ss.length))∧tget t 1 = .ptr 0 0∧tget t 3 = .ms 1 0 1 ss.length ss.length∧tget t 4 = .int .i64 (i:Nat)) (by simp[aE]) (by simp[aE,s0,s1,h1,h3,h4]) ?_
  rintro j t s c hj ⟨s0,s1,h1,h3,h4⟩ h5;by_cases hjl:j<ss.length
  ·have hmid:∀v,v=dnM (uM us) ss.length (i+1) j→(upd (fun b=>if b<j then dnM (uM us) ss.length (i+1) b else dnM (uM us) ss.length i b) j v)=fun b=>if b<j+1 then dnM (uM us) ss.length (i+1) b else dnM (uM us) ss.length i b:=fun v hv=>by
    funext b
    simp only[upd];by_cases e1:b=j
    ·subst e1;rw[aH rfl,aH (Nat.lt_succ_self b),hv]
    ·rw[aD e1];by_cases e2:b<j
     ·rw[aH e2,aH (by omega)]
     ·rw[aD e2,aD (by omega)]
   have g8:dnM (uM us) ss.length i j<256:=dnM_u8 _ (by omega)
   have hcell:=cells8_at (fun b=>if b<j then dnM (uM us) ss.length (i+1) b else dnM (uM us) ss.length i b) hjl
   simp only[Nat.lt_irrefl,eV]at hcell;cases hbit:(uM us i).testBit j
   ·have hsame:(fun b=>if b<j then dnM (uM us) ss.length (i+1) b else dnM (uM us) ss.length i b)=fun b=>if b<j+1 then dnM (uM us) ss.length (i+1) b else dnM (uM us) ss.length i b:=by
     rw[←hmid (dnM (uM us) ss.length (i+1) j) rfl]
     funext b
     simp only[upd];by_cases e1:b=j
     ·subst e1;rw[aH rfl,aD (Nat.lt_irrefl b)];simp only[dnM,hbit,Bool.false_and,cN,eV,Nat.or_zero]
     ·rw[aD e1]
    rw[hsame]at s1;simp only[z0,↓reduceIte,Nat.reduceEqDiff,Nat.reduceAdd,Nat.reduceLeDiff,reduceCtorEq,hd.len,he.len,hd.fz,he.fz,h1,h3,h4,h5,s0,eD hjl,aF (f:=56) rfl,aQ,c56 n hd.nag he hu (show i<us.length by omega) j,hbit]
    exact⟨hjl,trivial,trivial,trivial,trivial,s1,trivial,trivial,trivial⟩
   ·have hv:(dnM (uM us) ss.length i j ||| 2 ^ i)=dnM (uM us) ss.length (i+1) j:=by simp only[dnM,hbit,hjl,aV,Bool.and_true,if_true]
    have hst:stB (.fix 0 (cells8 (fun b=>if b<j then dnM (uM us) ss.length (i+1) b else dnM (uM us) ss.length i b) ss.length)) j [.int .u8 ((dnM (uM us) ss.length i j ||| 2 ^ i:Nat):Int)] =
      some (.fix 0 (cells8 (fun b=>if b<j+1 then dnM (uM us) ss.length (i+1) b else dnM (uM us) ss.length i b) ss.length)):=by
     rw[stB_1 (by rw[mO];exact hjl) rfl,cells8_set _ _ hjl,hmid _ hv]
    simp only[z1,↓reduceIte,Nat.reduceEqDiff,Nat.reduceAdd,Nat.reduceLeDiff,reduceCtorEq,hd.len,he.len,hd.fz,he.fz,h1,h3,h4,h5,s0,s1,eD hjl,aF (f:=56) rfl,aQ,c56 n hd.nag he hu (show i<us.length by omega) j,hbit,
     eG,cX,iS,AOp.kd,gI,iF,gJ,fC,dM,fH,kE,fM hjl,dL,hcell,one_u8 i (by omega),b_or_u8 g8 (vA (show i<8 by omega)),hst,aU,bN]
    exact⟨hjl,trivial,trivial,trivial,trivial,trivial,trivial,trivial,trivial⟩
  ·have hg:(fun b=>if b<j then dnM (uM us) ss.length (i+1) b else dnM (uM us) ss.length i b)=dnM (uM us) ss.length (i+1):=by
    funext b
    by_cases e2:b<j
    ·rw[aH e2]
    ·rw[aD e2];simp[dnM,show ¬b<ss.length by omega]
   rw[hg]at s1;simp only[z0,↓reduceIte,Nat.reduceEqDiff,Nat.reduceAdd,Nat.reduceLeDiff,reduceCtorEq,hd.len,he.len,h1,h3,h4,h5,s0,s1,kB (show ss.length≤j by omega)]
   exact⟨hlt,trivial,trivial,trivial,trivial,trivial,trivial,trivial⟩
 ·have e1:i=ss.length:=by omega
  subst e1;simp only[z0,↓reduceIte,Nat.reduceEqDiff,Nat.reduceAdd,Nat.reduceLeDiff,reduceCtorEq,hd.len,he.len,h1,h3,h4,s0,s1,kB (aJ ss.length),A51];have hf:frz true 20 s (.ms 1 0 1 ss.length ss.length)=some (.sl true ss.length (cells8 (dnM (uM us) ss.length ss.length) ss.length)):=by
   rw[iQ,s1];simp only[mO,bK,dL,Nat.ble_self_eq_true,aS,fU];rw[cW (by rw[mO];exact aJ _),frz_cells8,fG]
   rfl
  unfold pout;simp only[hf]
theorem b_shr_i64{x:Nat}(b:Nat)(hx:x<9223372036854775808){j:IntKind}:jY .shr (.int .i64 (x:Int)) (.int j (b:Int))=some (.int .i64 ((x >>> b:Nat):Int)):=by
 rw[binD_shr];simp only[shD];rw[aD (by omega),cU,show((2:Int) ^ (min b (IntKind.bits .i64)))=((2 ^ (min b 64):Nat):Int) by rw[Int.natCast_pow];rfl,fdiv_nat,shr_small b 64 (by omega)]
theorem iB{x y:Nat}(hx:x<9223372036854775808)(hy:y<9223372036854775808):jY .and (.int .i64 (x:Int)) (.int .i64 (y:Int))=some (.int .i64 ((x&&&y:Nat):Int)):=by
 have h:x&&&y<9223372036854775808:=Nat.lt_of_le_of_lt Nat.and_le_left hx;rw[uJ _ _ _ (.inl rfl)];simp only[xU,BitVec.ofInt_natCast,BitVec.toNat_and,BitVec.toNat_ofNat];rw[Nat.mod_eq_of_lt (show x<2 ^ IntKind.bits .i64 from Nat.lt_trans hx (by decide)),Nat.mod_eq_of_lt (show y<2 ^ IntKind.bits .i64 from Nat.lt_trans hy (by decide)),vY (show _≤9223372036854775807 by omega)]
theorem shr_pos(x n:Nat):decide ((0:Int)<((x >>> n:Nat):Int)) = !(Nat.blt x (2 ^ n)):=by
 rw[Nat.shiftRight_eq_div_pow,dC,cI,Bool.not_eq_true',←eM,Nat.blt_eq,Nat.not_lt];have h:=@Nat.div_pos_iff x (2 ^ n);have:=Nat.two_pow_pos n;omega
theorem all_i64:∀n:Nat,1≤n→n≤8→∃v,jY .shl (.int .i64 1) (.int .i64 (n:Int))=some (.int .i64 v)∧dJ .i64 (v-1)=((2 ^ n-1:Nat):Int)
 | 1,_,_=>⟨_,rfl,rfl⟩
 | 2,_,_=>⟨_,rfl,rfl⟩
 | 3,_,_=>⟨_,rfl,rfl⟩
 | 4,_,_=>⟨_,rfl,rfl⟩
 | 5,_,_=>⟨_,rfl,rfl⟩
 | 6,_,_=>⟨_,rfl,rfl⟩
 | 7,_,_=>⟨_,rfl,rfl⟩
 | 8,_,_=>⟨_,rfl,rfl⟩
 | 0,h,_=>by omega
 | n+9,_,h=>by omega
theorem c103(n:Nat){ss:List (List UInt8)}{us:List Nat}{d e:D}(hd:Sl 1 iC ss d)(he:Sl 1 u8C us e)(hu:iM us)(hs:ss.length≤8)(hl:us.length=ss.length){a:Nat}(ha:a<ss.length):
  cl (n+1) 103 [.agg [d,e],.int .i64 (a:Int)]=some (.bool (kP ss.length (uM us) a),true):=by
 rw[cK (A:=A103) rfl (n+1) _ rfl,show A103.body=B103 from rfl]
 simp only[B103,Ab.abq];have ha':a<us.length:=by omega
 have hx:∀c (hc:c<us.length),us[c]=uM us c:=fun c hc=>(jX hc 0).symm
 have h63:∀c,uM us c<9223372036854775808:=fun c=>Nat.lt_trans (lI hu c) (by omega)
 have hw:∀c,dJ .i64 ((uM us c:Nat):Int)=((uM us c:Nat):Int):=fun c=>gT (by omega) (by have:=lI hu c;omega)
 cases h1:Nat.blt (uM us a) (2 ^ ss.length)
 ·simp only[z0,seval,hd.len,he.len,hd.nag,he.nag,he.ia1 ha',he.at1 ha',u8C,hx _ ha',hw,b_shr_i64 _ (h63 a),shr_pos,h1,A103];rw[kP,h1];rfl
 cases h2:(uM us a).testBit a
 ·simp only[z0,seval,hd.len,he.len,hd.nag,he.nag,he.ia1 ha',he.at1 ha',u8C,hx _ ha',hw,b_shr_i64 _ (h63 a),shr_pos,h1,aF (f:=56) rfl,aQ,hd.fz,he.fz,c56 n hd.nag he hu ha' a,h2,A103];rw[kP,h1,h2];rfl
 simp only[z0,seval,hd.len,he.len,hd.nag,he.nag,he.ia1 ha',he.at1 ha',u8C,hx _ ha',hw,b_shr_i64 _ (h63 a),shr_pos,h1,aF (f:=56) rfl,aQ,hd.fz,he.fz,c56 n hd.nag he hu ha' a,h2];generalize hz:zloop KK _ _=rl;obtain⟨v,hv1,hv2⟩:=all_i64 ss.length (by omega) hs
 have hall:2 ^ ss.length-1<9223372036854775808:=by
  have:2 ^ ss.length≤2 ^ 8:=Nat.pow_le_pow_right (by omega) hs
  omega
 refine zfor rl hz ss.length (fQ (by omega)) (by omega) (fun i t s c=>sget s 0=some (.fix 26 [d,e])∧tget t 2 = .ptr 0 0∧tget t 5 = .int .i64 (ss.length:Nat)∧tget t 6 = .int .i64 (uM us a:Nat)∧tget t 1 = .int .i64 (a:Nat)∧∀b,b<i→okA ss.length (uM us) a b=true) (by simp[aE]) (by simp[aE]) ?_
 rintro i t s c hi ⟨s0,q2,q5,q6,q1,hob⟩ q7;by_cases hlt:i<ss.length
 ·have hi':i<us.length:=by omega
  have h64:uM us i&&&(2 ^ ss.length-1)<9223372036854775808:=Nat.lt_of_le_of_lt Nat.and_le_left (h63 i);have hstep:okA ss.length (uM us) a i=true→∀k,k<i+1→okA ss.length (uM us) a k=true:=fun h k hk=>by
   rcases cY.1 hk with h1|rfl
   ·exact hob k h1
   ·exact h
  have hbad:okA ss.length (uM us) a i=false→kP ss.length (uM us) a=false:=fun h=>by
   rw[kP,tP hlt h,Bool.and_false,Bool.and_false]
  cases hb1:(uM us a).testBit i
  ·have h:okA ss.length (uM us) a i=true:=by rw[okA,hb1];rfl
   simp only[z1,seval,hd.len,he.len,hd.fz,he.fz,s0,q1,q2,q5,q6,q7,eD hlt,aF (f:=56) rfl,aQ,c56 n hd.nag he hu ha' i,hb1];exact⟨hlt,trivial,trivial,trivial,trivial,trivial,trivial,trivial,trivial,hstep h⟩
  ·have hok:okA ss.length (uM us) a i=((Nat.beq i a || !(uM us i).testBit a)&&Nat.beq ((uM us i&&&(2 ^ ss.length-1))&&&uM us a) (uM us i&&&(2 ^ ss.length-1))):=by rw[okA,hb1];rfl
   have hb5:∀{x y:Nat},Nat.beq x y=true→decide (((x:Nat):Int)=(y:Nat))=true:=fun h=>by rw[aR h];simp
   have hb6:∀{x y:Nat},Nat.beq x y=false→decide (((x:Nat):Int)=(y:Nat))=false:=fun {x y} h=>by
    rw[bX,Int.ofNat_inj];intro e;rw[e,fG]at h;cases h
   cases e3:Nat.beq ((uM us i&&&(2 ^ ss.length-1))&&&uM us a) (uM us i&&&(2 ^ ss.length-1))
   ·have hq:=hb6 e3;cases e1:Nat.beq i a
    ·have hji:=hb6 e1;cases hb2:(uM us i).testBit a
     ·have h:okA ss.length (uM us) a i=false:=by rw[hok,e3,e1,hb2];rfl
      simp only[z1,seval,hd.len,he.len,hd.fz,he.fz,s0,q1,q2,q5,q6,q7,eD hlt,aF (f:=56) rfl,aQ,c56 n hd.nag he hu ha' i,hb1,eG,cX,iS,AOp.kd,gI,iK,jQ,iF,gJ,fC,dM,fH,he.ia1 hi',he.at1 hi',u8C,hx _ hi',hw,hv1,hv2,iB (h63 i) hall,iB h64 (h63 a),c56 n hd.nag he hu hi' a,hb2,gW,dH,hji,hq,A103]
      rw[hbad h];rfl
     ·have h:okA ss.length (uM us) a i=false:=by rw[hok,e3,e1,hb2];rfl
      simp only[z1,seval,hd.len,he.len,hd.fz,he.fz,s0,q1,q2,q5,q6,q7,eD hlt,aF (f:=56) rfl,aQ,c56 n hd.nag he hu ha' i,hb1,eG,cX,iS,AOp.kd,gI,iK,jQ,iF,gJ,fC,dM,fH,he.ia1 hi',he.at1 hi',u8C,hx _ hi',hw,hv1,hv2,iB (h63 i) hall,iB h64 (h63 a),c56 n hd.nag he hu hi' a,hb2,gW,dH,hji,hq,A103]
      rw[hbad h];rfl
    ·have hji:=hb5 e1;cases hb2:(uM us i).testBit a
     ·have h:okA ss.length (uM us) a i=false:=by rw[hok,e3,e1,hb2];rfl
      simp only[z1,seval,hd.len,he.len,hd.fz,he.fz,s0,q1,q2,q5,q6,q7,eD hlt,aF (f:=56) rfl,aQ,c56 n hd.nag he hu ha' i,hb1,eG,cX,iS,AOp.kd,gI,iK,jQ,iF,gJ,fC,dM,fH,he.ia1 hi',he.at1 hi',u8C,hx _ hi',hw,hv1,hv2,iB (h63 i) hall,iB h64 (h63 a),c56 n hd.nag he hu hi' a,hb2,gW,dH,hji,hq,A103]
      rw[hbad h];rfl
     ·have h:okA ss.length (uM us) a i=false:=by rw[hok,e3,e1,hb2];rfl
      simp only[z1,seval,hd.len,he.len,hd.fz,he.fz,s0,q1,q2,q5,q6,q7,eD hlt,aF (f:=56) rfl,aQ,c56 n hd.nag he hu ha' i,hb1,eG,cX,iS,AOp.kd,gI,iK,jQ,iF,gJ,fC,dM,fH,he.ia1 hi',he.at1 hi',u8C,hx _ hi',hw,hv1,hv2,iB (h63 i) hall,iB h64 (h63 a),c56 n hd.nag he hu hi' a,hb2,gW,dH,hji,hq,A103]
      rw[hbad h];rfl
   ·have hq:=hb5 e3;cases e1:Nat.beq i a
    ·have hji:=hb6 e1;cases hb2:(uM us i).testBit a
     ·have h:okA ss.length (uM us) a i=true:=by rw[hok,e3,e1,hb2];rfl
      simp only[z1,seval,hd.len,he.len,hd.fz,he.fz,s0,q1,q2,q5,q6,q7,eD hlt,aF (f:=56) rfl,aQ,c56 n hd.nag he hu ha' i,hb1,eG,cX,iS,AOp.kd,gI,iK,jQ,iF,gJ,fC,dM,fH,he.ia1 hi',he.at1 hi',u8C,hx _ hi',hw,hv1,hv2,iB (h63 i) hall,iB h64 (h63 a),c56 n hd.nag he hu hi' a,hb2,gW,dH,hji,hq]
      exact⟨hlt,trivial,trivial,trivial,trivial,trivial,trivial,trivial,trivial,hstep h⟩
     ·have h:okA ss.length (uM us) a i=false:=by rw[hok,e3,e1,hb2];rfl
      simp only[z1,seval,hd.len,he.len,hd.fz,he.fz,s0,q1,q2,q5,q6,q7,eD hlt,aF (f:=56) rfl,aQ,c56 n hd.nag he hu ha' i,hb1,eG,cX,iS,AOp.kd,gI,iK,jQ,iF,gJ,fC,dM,fH,he.ia1 hi',he.at1 hi',u8C,hx _ hi',hw,hv1,hv2,iB (h63 i) hall,iB h64 (h63 a),c56 n hd.nag he hu hi' a,hb2,gW,dH,hji,hq,A103]
      rw[hbad h];rfl
    ·have hji:=hb5 e1;cases hb2:(uM us i).testBit a
     ·have h:okA ss.length (uM us) a i=true:=by rw[hok,e3,e1,hb2];rfl
      simp only[z1,seval,hd.len,he.len,hd.fz,he.fz,s0,q1,q2,q5,q6,q7,eD hlt,aF (f:=56) rfl,aQ,c56 n hd.nag he hu ha' i,hb1,eG,cX,iS,AOp.kd,gI,iK,jQ,iF,gJ,fC,dM,fH,he.ia1 hi',he.at1 hi',u8C,hx _ hi',hw,hv1,hv2,iB (h63 i) hall,iB h64 (h63 a),c56 n hd.nag he hu hi' a,hb2,gW,dH,hji,hq]
      exact⟨hlt,trivial,trivial,trivial,trivial,trivial,trivial,trivial,trivial,hstep h⟩
     ·have h:okA ss.length (uM us) a i=true:=by rw[hok,e3,e1,hb2];rfl
      simp only[z1,seval,hd.len,he.len,hd.fz,he.fz,s0,q1,q2,q5,q6,q7,eD hlt,aF (f:=56) rfl,aQ,c56 n hd.nag he hu ha' i,hb1,eG,cX,iS,AOp.kd,gI,iK,jQ,iF,gJ,fC,dM,fH,he.ia1 hi',he.at1 hi',u8C,hx _ hi',hw,hv1,hv2,iB (h63 i) hall,iB h64 (h63 a),c56 n hd.nag he hu hi' a,hb2,gW,dH,hji,hq]
      exact⟨hlt,trivial,trivial,trivial,trivial,trivial,trivial,trivial,trivial,hstep h⟩
 ·simp only[z0,seval,hd.len,he.len,s0,q1,q2,q5,q6,q7,kB (show ss.length≤i by omega),A103]
  rw[kP,h1,h2,iZ.2 fun k hk=>hob k (by omega)];rfl
theorem nearD_congr{f g:Nat→Nat}{n a b:Nat}(h:∀c,c<n→f c=g c)(ha:a<n)(hb:b<n):jH f n a b=jH g n a b:=by
 unfold jH;refine qX fun c _ hc=>?_
 unfold kL;rw[h a ha,h b hb,h c (by omega)]
theorem down_uM(n:Nat)(us:List Nat){i:Nat}(h:i<n):uM (oH n us) i=dnM (uM us) n n i:=by
 show(oH n us).getD i 0=_;unfold oH;rw[jX (by simpa using h)];simp only[List.getElem_map,List.getElem_range]
theorem down_bytes{n:Nat}(us:List Nat)(h:n≤8):iM (oH n us):=fun u hu=>by
 obtain⟨i,_,rfl⟩:=cQ.1 hu;exact dnM_u8 i h
theorem xQ(n:Nat)(us:List Nat):(oH n us).length=n:=by simp[oH]
theorem c54(n:Nat){ss:List (List UInt8)}{us:List Nat}{d e:D}(hd:Sl 1 iC ss d)(he:Sl 1 u8C us e)(hu:iM us)(hs:oS ss):cl (n+3) 54 [.agg [d,e]]=some (CHK ss us,true):=by
 rw[cK (A:=A54) rfl (n+3) _ rfl,show A54.body=B54 from rfl]
 simp only[B54,Ab.abq];rcases lY ss with⟨h1,h2⟩|⟨h1,a,er,h2,h3⟩
 ·have hn:=kY.1 h1;by_cases hl:us.length=ss.length
  ·simp only[z0,seval,eq_true (show(((us.length:Nat):Int)=(ss.length:Nat)) by omega),gW,eq_self,bS,bV,hd.len,he.len,hd.nag,he.nag,aF (f:=102) rfl,aQ,hd.fz,c102 n hd hs,h2,fS]
   generalize hz:zloop KK _ _=rl;refine zfor rl hz ss.length (fQ (by omega)) (by omega) (fun i t s c=>sget s 0=some (.fix 26 [d,e])∧tget t 1 = .ptr 0 0∧tget t 6 = .int .i64 (ss.length:Nat)∧∀j,j<i→pH ss.length (uM us) j=none) (by simp[aE]) (by simp[aE]) ?_
   rintro i t s c hi ⟨s0,q1,q6,hb⟩ q7;by_cases hlt:i<ss.length
   ·cases ho:kP ss.length (uM us) i
    ·simp only[z1,seval,hd.len,he.len,hd.fz,he.fz,s0,q1,q6,q7,eD hlt,aF (f:=103) rfl,aQ,c103 (n+1) hd he hu hn.1.2 hl hlt,ho,A54];rw[CHK,aH h1,aH hl,ordD,fZ hlt (by rw[pH,ho];rfl) hb];rfl
    ·simp only[z1,seval,hd.len,he.len,hd.fz,he.fz,s0,q1,q6,q7,eD hlt,aF (f:=103) rfl,aQ,c103 (n+1) hd he hu hn.1.2 hl hlt,ho];exact⟨hlt,trivial,trivial,trivial,trivial,trivial,trivial,eH hb (by rw[pH,ho];rfl)⟩
   ·have e1:i=ss.length:=by omega
    subst e1;have hCHK:CHK ss us=rY ss.length (uM us):=by rw[CHK,aH h1,aH hl,ordD,gU hb]
    rw[hCHK];simp only[z1,seval,hd.len,he.len,hd.fz,he.fz,s0,q1,q6,q7,kB (aJ ss.length),aF (f:=51) rfl,aQ,c51 (n+1) hd he hu hn.1.2 hl];generalize hz2:zloop KK _ _=rl2;have hS8:Sl 1 u8C (oH ss.length us) (.sl true ss.length (cells8 (dnM (uM us) ss.length ss.length) ss.length)):=Sl8 _ _
    generalize hdw:D.sl true ss.length (cells8 (dnM (uM us) ss.length ss.length) ss.length)=dw at hS8 hz2;refine zfor rl2 hz2 ss.length (fQ (by omega)) (by omega) (fun i t s c=>sget s 0=some (.fix 26 [d,e])∧tget t 1 = .ptr 0 0∧tget t 6 = .int .i64 (ss.length:Nat)∧tget t 8=dw∧∀j,j<i→xG ss.length (uM us) j=none) (by simp[aE]) (by simp[aE,s0,q1,q6]) ?_
    rintro i t s c hi ⟨s0,q1,q6,q8,hb2⟩ q9;by_cases hlt:i<ss.length
    ·simp only[z0,seval,s0,q1,q6,q8,q9,eD hlt];generalize hz3:zloop KK _ _=rl3;refine zfor rl3 hz3 ss.length (fQ (by omega)) (by omega) (fun j t s c=>sget s 0=some (.fix 26 [d,e])∧tget t 1 = .ptr 0 0∧tget t 6 = .int .i64 (ss.length:Nat)∧tget t 8=dw∧tget t 9 = .int .i64 (i:Nat)∧∀k,k<j→lat2 ss.length (uM us) i k=true) (by simp[aE]) (by simp[aE,s0,q1,q6,q8,q9]) ?_
     rintro j t s c hj ⟨s0,q1,q6,q8,q9,hob⟩ q10;by_cases hjl:j<ss.length
     ·have hbad:lat2 ss.length (uM us) i j=false→rY ss.length (uM us)=e2 i 4:=fun h=>by
       rw[rY,fZ hlt (by rw[xG,latB,tP hjl h];rfl) hb2]
      have r1:=c52 (n+2) he hu (by omega) (show i<us.length by omega) (show j<us.length by omega)
      have r2:=c52 (n+2) hS8 (down_bytes us hn.1.2) (by rw[xQ];omega) (show i<(oH ss.length us).length by rw[xQ];omega) (show j<(oH ss.length us).length by rw[xQ];omega)
      rw[hl]at r1;rw[xQ,nearD_congr (fun c hc=>down_uM _ us hc) hlt hjl]at r2
      cases hn1:decide (jH (uM us) ss.length i j<0)
      ·cases hn2:decide (jH (dnM (uM us) ss.length ss.length) ss.length i j<0)
       ·have h:lat2 ss.length (uM us) i j=true:=by rw[lat2,hn1,hn2];rfl
        simp only[z0,seval,s0,q1,q6,q8,q9,q10,eD hjl,aF (f:=52) rfl,aQ,he.fz,hS8.fz,r1,r2,hn1,hn2];refine⟨hjl,trivial,trivial,trivial,trivial,trivial,trivial,trivial,trivial,fun k hk=>?_⟩
        rcases cY.1 hk with h1|rfl
        ·exact hob k h1
        ·exact h
       ·have h:lat2 ss.length (uM us) i j=false:=by rw[lat2,hn1,hn2];rfl
        simp only[z0,seval,s0,q1,q6,q8,q9,q10,eD hjl,aF (f:=52) rfl,aQ,he.fz,hS8.fz,r1,r2,hn1,hn2,A54];rw[hbad h];rfl
      ·have h:lat2 ss.length (uM us) i j=false:=by rw[lat2,hn1];rfl
       simp only[z0,seval,s0,q1,q6,q8,q9,q10,eD hjl,aF (f:=52) rfl,aQ,he.fz,hS8.fz,r1,r2,hn1,A54];rw[hbad h];rfl
     ·have hp:xG ss.length (uM us) i=none:=by rw[xG,latB,iZ.2 fun k hk=>hob k (by omega)];rfl
      simp only[z0,seval,s0,q1,q6,q8,q9,q10,kB (show ss.length≤j by omega)]
      exact⟨hlt,trivial,trivial,trivial,trivial,trivial,trivial,trivial,eH hb2 hp⟩
    ·have e1:i=ss.length:=by omega
     subst e1;simp only[z0,seval,s0,q1,q6,q8,q9,kB (aJ ss.length),A54];rw[rY,gU hb2];rfl
  ·simp only[z0,seval,aL (show ¬(((us.length:Nat):Int)=(ss.length:Nat)) by omega),gW,eq_self,bS,bV,hd.len,he.len,hd.nag,he.nag,aF (f:=102) rfl,aQ,hd.fz,c102 n hd hs,h2,fS,A54]
   rw[CHK,aH h1,aD hl];rfl
 ·simp only[z0,seval,aL h3,gW,bS,bV,hd.len,he.len,hd.nag,he.nag,aF (f:=102) rfl,aQ,hd.fz,c102 n hd hs,h2,fS,A54];rw[CHK,aD (by rw[h1];decide),h2];rfl
-- without what a part of a row is
theorem ex_ls1:(∀(a:D) (l:List D),(a::l).length=l.length+1)∧(([]:List D).length=0)∧(∀(a v:D) (l:List D),(a::l).set 0 v=v::l)∧(∀(a v:D) (l:List D) (n:Nat),(a::l).set (n+1) v=a::l.set n v) ∧
  (∀(a:D) (l:List D),(a::l)[0]?=some a)∧(∀(a:D) (l:List D) (n:Nat),(a::l)[n+1]?=l[n]?)∧(∀(n:Nat),([]:List D)[n]?=none)∧(∀(a:D) (l:List D),(a::l).any eU=(eU a||l.any eU))∧(([]:List D).any eU=false) ∧
  (∀(l:List D),l.drop 0=l)∧(∀(a:D) (l:List D) (n:Nat),(a::l).drop (n+1)=l.drop n)∧(∀(l:List D),l.take 0=[])∧(∀(a:D) (l:List D) (n:Nat),(a::l).take (n+1)=a::l.take n)∧(∀(n:Nat),([]:List D).take n=[])∧(∀(n:Nat),([]:List D).drop n=[]) ∧
  (∀(G:List (Nat×List D)) (t:Tm),parts G t []=[])∧(∀(G:List (Nat×List D)) (t:Tm) (o n:Nat) (a:Arg) (l:List (Nat×Nat×Arg)),parts G t ((o,n,a)::l)=(o,n,a.ev G t)::parts G t l) ∧
  (∀(cs:List D),place cs []=some cs)∧(∀(cells:List D) (off n:Nat) (d:D) (r:List (Nat×Nat×D)),place cells ((off,n,d)::r)=(match d.cells? with
   | some cs=>bif Nat.beq cs.length n&&Nat.ble (off+n) cells.length then place (eS cells off cs) r else none
   | none=>none)) ∧
  (∀(ty off:Nat) (cs vs:List D),stB (.fix ty cs) off vs=bif vs.any eU then none else bif Nat.ble (off+vs.length) cs.length then some (.fix ty (eS cs off vs)) else none):=by
 refine⟨fun _ _=>rfl,rfl,fun _ _ _=>rfl,fun _ _ _ _=>rfl,fun _ _=>rfl,fun _ _ _=>rfl,fun _=>rfl,fun _ _=>rfl,rfl,fun _=>rfl,fun _ _ _=>rfl,fun _=>rfl,fun _ _ _=>rfl,fun _=>List.take_nil,fun _=>List.drop_nil,fun _ _=>rfl,fun _ _ _ _ _ _=>rfl,fun _=>rfl,fun _ _ _ _ _=>rfl,fun _ _ _ _=>rfl⟩
def siteC(p:Int×Int):List D:=[.int .i64 p.1,.int .i64 p.2]
def vS(ss:List (List UInt8))(us:List Nat):Bool:=(List.range (min ss.length 30)).any (fun i=>decide (50<(ss.getD i []).length))||(decide (20<ss.length)||decide (20<us.length))
theorem z2:type_of% gN∧type_of% at_c∧type_of% exq∧type_of% ex_ls1∧type_of% exb∧type_of% Ab.abq:=⟨gN,at_c,exq,ex_ls1,exb,Ab.abq⟩
theorem c69(n:Nat){us:List Nat}{e:D}(he:Sl 1 u8C us e)(hl:us.length<9223372036854775807)(a b:Nat):
  cl n 69 [e,.int .u8 ((uM us a&&&uM us b:Nat):Int)]=some (.int .i64 (jH (uM us) us.length a b),true):=by
 rw[cK (A:=A69) rfl n _ rfl,show A69.body=B69 from rfl]
 simp only[B69,Ab.abq];have hx:∀c (hc:c<us.length),us[c]=uM us c:=fun c hc=>(jX hc 0).symm
 simp only[z0,seval,he.len];generalize hz:zloop KK _ _=rl;refine zrange rl hz us.length (fQ hl) hl (fun i t s c=>tget t 0=e∧tget t 1 = .int .u8 ((uM us a&&&uM us b:Nat):Int)∧∀j,j<i→kL (uM us) a b j=none) (by decide) (by simp[aE]) (by simp[aE]) (by simp[aE]) ?_ ?_
 ·rintro i t s c hi ⟨q0,q1,hn⟩ hti htn;by_cases e1:uM us a&&&uM us b=uM us i
  ·have hp:kL (uM us) a b i=some (i:Int):=by unfold kL;rw[←e1,fG];rfl
   simp only[z0,seval,q0,q1,hti,htn,he.ia1 hi,he.at1 hi,u8C,hx _ hi,oG,bD e1,A69];unfold jH;rw[fZ hi hp hn];rfl
  ·have hp:kL (uM us) a b i=none:=by unfold kL;rw[iY (Ne.symm e1)];rfl
   simp only[z0,seval,q0,q1,hti,htn,he.ia1 hi,he.at1 hi,u8C,hx _ hi,oG,aK e1];exact⟨trivial,trivial,trivial,.inr (.inr trivial),nofun,nofun,trivial,trivial,eH hn hp⟩
 ·rintro t s c ⟨q0,q1,hn⟩ hti htn;simp only[z0,seval,q0,q1,hti,htn,A69];unfold jH;rw[gU hn];rfl
theorem c28(n:Nat){ss:List (List UInt8)}{us:List Nat}{d e:D}(hd:Sl 1 iC ss d)(he:Sl 1 u8C us e):
  cl n 28 [.agg [d,e]]=some (.bool (vS ss us),true):=by
 rw[cK (A:=A28) rfl n _ rfl,show A28.body=B28 from rfl]
 simp only[B28,Ab.abq];simp only[z0,seval,hd.nag,he.nag];generalize hz:zloop KK _ _=rl;refine zfor rl hz (min ss.length 30) (fQ (by omega)) (by omega) (fun i t s c=>sget s 0=some (.fix 26 [d,e])∧tget t 1 = .ptr 0 0∧∀j,j<i→decide (50<(ss.getD j []).length)=false) (by simp[aE]) (by simp[aE]) ?_
 rintro i t s c hi ⟨s0,q1,hn⟩ q3;by_cases hlt:i<min ss.length 30
 ·have hl1:i<ss.length:=by omega
  have h30:decide ((i:Int)<30)=true:=by rw[cI];omega
  cases h50:decide ((50:Int)<((ss[i]).length:Int))
  ·have h:decide (50<(ss.getD i []).length)=false:=by rw[jX hl1];rw[bX]at h50 ⊢;omega
   simp only[z0,seval,s0,q1,q3,hd.len,eD hl1,h30,hd.ia1 hl1,hd.at1 hl1,iC,h50];refine⟨hlt,trivial,trivial,trivial,trivial,trivial,fun j hj=>?_⟩
   rcases cY.1 hj with h1|rfl
   ·exact hn j h1
   ·exact h
  ·have h:decide (50<(ss.getD i []).length)=true:=by rw[jX hl1];rw[cI]at h50 ⊢;omega
   simp only[z0,seval,s0,q1,q3,hd.len,eD hl1,h30,hd.ia1 hl1,hd.at1 hl1,iC,h50,A28];have:vS ss us=true:=by
    rw[vS,List.any_eq_true.2 ⟨i,List.mem_range.2 hlt,h⟩];rfl
   rw[this];rfl
 ·have e1:i=min ss.length 30:=by omega
  have hany:(List.range (min ss.length 30)).any (fun i=>decide (50<(ss.getD i []).length))=false:=by
   rw[List.any_eq_false];intro j hj;rw[hn j (by rw[e1];exact List.mem_range.1 hj)];decide
  have hstop:decide ((i:Int)<(ss.length:Int))=false∨(decide ((i:Int)<(ss.length:Int))=true∧decide ((i:Int)<30)=false):=by
   by_cases h:i<ss.length
   ·exact .inr ⟨eD h,by rw[bX];omega⟩
   ·exact .inl (kB (by omega))
  have h20:decide ((20:Int)<(ss.length:Int))=decide (20<ss.length):=by rw[dC,cI,cI];omega
  have h21:decide ((20:Int)<(us.length:Int))=decide (20<us.length):=by rw[dC,cI,cI];omega
  rw[vS,hany,Bool.false_or];cases h22:decide (20<ss.length)
  ·rcases hstop with hs|⟨hs,hs2⟩
   ·simp only[z0,seval,s0,q1,q3,hd.len,he.len,hs,h20,h21,h22,A28];rfl
   ·simp only[z0,seval,s0,q1,q3,hd.len,he.len,hs,hs2,h20,h21,h22,A28];rfl
  ·rcases hstop with hs|⟨hs,hs2⟩
   ·simp only[z0,seval,s0,q1,q3,hd.len,he.len,hs,h20,h21,h22,A28];rfl
   ·simp only[z0,seval,s0,q1,q3,hd.len,he.len,hs,hs2,h20,h21,h22,A28];rfl
theorem dT{p:Prop}[Decidable p](h:p):decide p=true:=bD h
theorem dF{p:Prop}[Decidable p](h:¬p):decide p=false:=aK h
theorem lC{a e a' e':Int}(h:e2 a e=e2 a' e'):a=a'∧e=e':=by
 unfold e2 at h;cases h;exact⟨rfl,rfl⟩
theorem dW(z:D):(sameD 1000 z z||@decide (z=z) (Classical.propDecidable _))=true:=by simp
theorem latD_good{n:Nat}{u:Nat→Nat}(h:rY n u=e2 0 0):∀a,a<n→∀b,b<n→lat2 n u a b=true:=by
 unfold rY at h;rcases eR (xG n u) (e2 0 0) n 0 with⟨hb,_⟩|⟨m,r,_,h2,h3,_,h5⟩
 ·intro a ha;have:=hb a (by omega) (by omega)
  unfold xG at this;cases hl:latB n u a
  ·rw[hl]at this;cases this
  ·exact iZ.1 hl
 ·rw[h5]at h;unfold xG at h3;cases hb:latB n u m<;>rw[hb]at h3
  ·cases h3;exact absurd (lC h).2 (by decide)
  ·cases h3
theorem CHK_lat{ss:List (List UInt8)}{us:List Nat}(h:CHK ss us=e2 0 0):rY ss.length (uM us)=e2 0 0:=by
 have h0:=h;unfold CHK at h;rcases lY ss with⟨h1,h2⟩|⟨h1,a,er,h2,h3⟩
 ·rw[aH h1]at h;by_cases hl:us.length=ss.length
  ·rw[aH hl]at h;unfold ordD at h;rcases eR (pH ss.length (uM us)) (rY ss.length (uM us)) ss.length 0 with⟨hb,h'⟩|⟨m,r,_,h2,h3,_,h5⟩
   ·rw[h']at h;exact h
   ·rw[h5]at h;unfold pH at h3;cases hb:kP ss.length (uM us) m<;>rw[hb]at h3
    ·cases h3;exact absurd (lC h).2 (by decide)
    ·cases h3
  ·rw[aD hl]at h;exact absurd (lC h).2 (by decide)
 ·rw[aD (by rw[h1];decide),h2]at h;exact absurd (lC h).2 h3
theorem near_nat{ss:List (List UInt8)}{us:List Nat}(h:CHK ss us=e2 0 0){a b:Nat}(ha:a<ss.length)(hb:b<ss.length):∃k:Nat,jH (uM us) ss.length a b=k∧k<ss.length:=by
 have h1:=latD_good (CHK_lat h) a ha b hb;unfold lat2 at h1;simp only[bE,Bool.not_eq_true',bX]at h1;unfold jH at h1 ⊢;rcases eR (kL (uM us) a b) (-1) ss.length 0 with⟨_,h'⟩|⟨m,r,_,h2,h3,_,h5⟩
 ·rw[h']at h1;exact absurd (by decide) h1.1
 ·refine⟨m,?_,by omega⟩
  rw[h5];unfold kL at h3;split at h3
  ·cases h3;rfl
  ·cases h3
/-! Sites in a map. -/
def mpE:Nat→List (Int×Int)→List rP
 | _,[]=>[]
 | k,p::r=>(.int .i64 p.1,.int .i64 p.2,k)::mpE (k+1) r
def qZ:List (Int×Int)→Int→Nat→Option (Nat×Int)
 | [],_,_=>none
 | p::r,x,n=>if x=p.1 then some (n,p.2) else qZ r x (n+1)
def setM:List (Int×Int)→Nat→Int→List (Int×Int)
 | [],_,_=>[]
 | p::r,0,v=>(p.1,v)::r
 | p::r,n+1,v=>p::setM r n v
theorem mfind_mpE(x:Int):∀(l:List (Int×Int)) (k n:Nat),mfind .int (.int .i64 x) (mpE k l) n=some ((qZ l x n).map fun q=>(q.1,.int .i64 q.2))
 | [],k,n=>rfl
 | p::r,k,n=>by
  have h:keyEq .int (.int .i64 x) (.int .i64 p.1)=some (decide (x=p.1)):=by
   show(if IntKind.i64=IntKind.i64 then some (x==p.1) else none)=_
   rw[aH rfl];congr 1
  simp only[mpE,mfind,h,qZ];by_cases e:x=p.1
  ·rw[aH e,bD e];rfl
  ·rw[aD e,aK e];exact mfind_mpE x r (k+1) (n+1)
theorem mset_mpE:∀(l:List (Int×Int)) (k j:Nat) (v:Int),mset (mpE k l) j (.int .i64 v)=mpE k (setM l j v)
 | [],_,_,_=>rfl
 | p::r,k,0,v=>rfl
 | p::r,k,j+1,v=>by simp only[mpE,mset,setM,mset_mpE r]
theorem mpE_snoc:∀(l:List (Int×Int)) (k:Nat) (p:Int×Int),mpE k l++[(.int .i64 p.1,.int .i64 p.2,k+l.length)]=mpE k (l++[p])
 | [],k,p=>rfl
 | q::r,k,p=>by
  simp only[mpE,cD,aU];rw[show k+(r.length+1)=k+1+r.length by omega,mpE_snoc r (k+1) p]
theorem mpE_len:∀(l:List (Int×Int)) (k:Nat),(mpE k l).length=l.length
 | [],_=>rfl
 | p::r,k=>by simp only[mpE,aU,mpE_len r]
theorem setM_len:∀(l:List (Int×Int)) (j:Nat) (v:Int),(setM l j v).length=l.length
 | [],_,_=>rfl
 | p::r,0,v=>rfl
 | p::r,j+1,v=>by simp only[setM,aU,setM_len r]
theorem setM_keys:∀(l:List (Int×Int)) (j:Nat) (v:Int),(setM l j v).map Prod.fst=l.map Prod.fst
 | [],_,_=>rfl
 | p::r,0,v=>rfl
 | p::r,j+1,v=>by simp only[setM,bW,setM_keys r]
theorem posM_none:∀{l:List (Int×Int)} {x:Int} {n:Nat},qZ l x n=none→x∉l.map Prod.fst
 | [],_,_,_=>by simp
 | p::r,x,n,h=>by
  unfold qZ at h;split at h
  ·cases h
  ·rename_i hne;rw[bW,bL,not_or];exact⟨hne,posM_none h⟩
theorem mpE_borns:∀(l:List (Int×Int)) (k:Nat),borns (mpE k l)=(List.range l.length).map (· + k)
 | [],_=>rfl
 | p::r,k=>by
  have ih:=mpE_borns r (k+1);unfold borns at ih ⊢;simp only[mpE,bW,ih,aU,List.range_succ_eq_map,List.map_map,bK]
  congr 1
  apply List.map_congr_left;intro a _;simp only[Function.comp];omega
theorem mpE_nodup(l:List (Int×Int)):(borns (mpE 0 l)).Nodup:=by
 rw[mpE_borns];simp only[Nat.add_zero,List.map_id'];exact List.nodup_range
theorem mpE_lt(l:List (Int×Int)):∀e∈mpE 0 l,e.2.2<l.length:=fun e he=>by
 have:e.2.2∈borns (mpE 0 l):=List.mem_map_of_mem he;rw[mpE_borns]at this;simpa using this
def popT:List UInt8:=[0,1,1,2,1,2,2,3,1,2,2,3,2,3,3,4,1,2,2,3,2,3,3,4,2,3,3,4,3,4,4,5,1,2,2,3,2,3,3,4,2,3,3,4,3,4,4,5,2,3,3,4,3,4,4,5,3,4,4,5,4,5,5,6,1,2,2,3,2,3,3,4,2,3,3,4,3,4,4,5,2,3,3,4,3,4,4,5,3,4,4,5,4,5,5,6,2,3,3,4,3,4,4,5,3,4,4,5,4,5,5,6,3,4,4,5,4,5,5,6,4,5,5,6,5,6,6,7,1,2,2,3,2,3,3,4,2,3,3,4,3,4,4,5,2,3,3,4,3,4,4,5,3,4,4,5,4,5,5,6,2,3,3,4,3,4,4,5,3,4,4,5,4,5,5,6,3,4,4,5,4,5,5,6,4,5,5,6,5,6,6,7,2,3,3,4,3,4,4,5,3,4,4,5,4,5,5,6,3,4,4,5,4,5,5,6,4,5,5,6,5,6,6,7,3,4,4,5,4,5,5,6,4,5,5,6,5,6,6,7,4,5,5,6,5,6,6,7,5,6,6,7,6,7,7,8]
def pop(u:Nat):Nat:=(popT.getD u 0).toNat
theorem c124(n:Nat){u:Nat}(hu:u<256):cl n 124 [.int .u8 (u:Int)]=some (.int .i64 (pop u:Nat),true):=by
 rw[cK (A:=A124) rfl n _ rfl,show A124.body=B124 from rfl]
 simp only[B124,Ab.abq];have hl:u<popT.length:=hu;have hi:kQ popT.length (.int .u8 (u:Int))=some u:=fM hl;have hg:popT[u]?=some popT[u]:=aI hl;have hp:pop u=popT[u].toNat:=by rw[pop,jX hl]
 have hb:=popT[u].toNat_lt
 rw[show(D.str [0,1,1,2,1,2,2,3,1,2,2,3,2,3,3,4,1,2,2,3,2,3,3,4,2,3,3,4,3,4,4,5,1,2,2,3,2,3,3,4,2,3,3,4,3,4,4,5,2,3,3,4,3,4,4,5,3,4,4,5,4,5,5,6,1,2,2,3,2,3,3,4,2,3,3,4,3,4,4,5,2,3,3,4,3,4,4,5,3,4,4,5,4,5,5,6,2,3,3,4,3,4,4,5,3,4,4,5,4,5,5,6,3,4,4,5,4,5,5,6,4,5,5,6,5,6,6,7,1,2,2,3,2,3,3,4,2,3,3,4,3,4,4,5,2,3,3,4,3,4,4,5,3,4,4,5,4,5,5,6,2,3,3,4,3,4,4,5,3,4,4,5,4,5,5,6,3,4,4,5,4,5,5,6,4,5,5,6,5,6,6,7,2,3,3,4,3,4,4,5,3,4,4,5,4,5,5,6,3,4,4,5,4,5,5,6,4,5,5,6,5,6,6,7,3,4,4,5,4,5,5,6,4,5,5,6,5,6,6,7,4,5,5,6,5,6,6,7,5,6,6,7,6,7,7,8])=D.str popT from rfl]
 simp only[z0,seval,hi,hg,gT (show -9223372036854775808≤(popT[u].toNat:Int) by omega) (by omega),A124]
 rw[hp];rfl
def lowP(us:List Nat)(i:Nat):Option Int:=if us.getD i 0=2 ^ us.length-1 then some (i:Int) else none
def gZ(us:List Nat):Int:=scan (lowP us) 0 us.length 0
def endP(f:Nat→Nat)(n i:Nat):Option Int:=if n≤i+1∨n≤pop (f i) then some (i:Int) else none
def endI(f:Nat→Nat)(n:Nat):Int:=scan (endP f n) 0 n 0
theorem c82(n:Nat){f:Nat→Nat}(hf:∀i,f i<256){k:Nat}(h1:1≤k)(h8:k≤8):cl (n+1) 82 [.agg (row8 f),.int .i64 (k:Nat)]=some (.int .i64 (endI f k),true):=by
 rw[cK (A:=A82) rfl (n+1) _ rfl,show A82.body=B82 from rfl]
 simp only[B82,Ab.abq];have hsub:dJ .i64 ((k:Int)-1)=((k-1:Nat):Int):=by rw[gT (by omega) (by omega)];omega
 have hnag:eU (D.agg (row8 f))=true:=rfl;simp only[z1,seval];generalize hz:zloop KK _ _=rl;refine zwhile rl hz k (fQ (by omega)) (fun i z=>∃t s c,z=⟨t,s,c,[],none⟩∧sget s 0=some (.fix 141 (row8 f))∧tget t 1 = .int .i64 (k:Nat)∧tget t 2 = .ptr 0 0∧tget t 5 = .int .i64 (i:Nat)∧i<k∧∀j,j<i→endP f k j=none)
  ⟨_,_,_,rfl,by simp[aE],by simp[aE],by simp[aE],by simp[aE],h1,nofun⟩ ?_
 rintro i z hi ⟨t,s,c,rfl,s0,q1,q2,q5,hik,hn⟩;have hrow:=qY f (k:=i) (by omega)
 have hidx:kQ 8 (.int .i64 (i:Int))=some i:=fM (by omega)
 by_cases hlast:k≤i+1
 ·have hp:endP f k i=some (i:Int):=by rw[endP,aH (.inl hlast)]
  simp only[z1,seval,q1,q2,q5,hsub,show decide ((i:Int)<((k-1:Nat):Int))=false from aK (by omega),A82]
  rw[endI,fZ hik hp hn];rfl
 ·have h124:=c124 n (hf i);by_cases hq:k≤pop (f i)
  ·have hp:endP f k i=some (i:Int):=by rw[endP,aH (.inr hq)]
   simp only[z1,seval,q1,q2,q5,s0,hsub,hidx,hrow,dL,bK,show decide ((i:Int)<((k-1:Nat):Int))=true from bD (by omega),aF (f:=124) rfl,aQ,h124,show decide (((pop (f i):Nat):Int)<(k:Int))=false from aK (by omega),A82]
   rw[endI,fZ hik hp hn];rfl
  ·have hp:endP f k i=none:=by rw[endP,aD (fun h=>h.elim hlast hq)]
   simp only[z1,seval,q1,q2,q5,s0,hsub,hidx,hrow,dL,bK,show decide ((i:Int)<((k-1:Nat):Int))=true from bD (by omega),aF (f:=124) rfl,aQ,h124,show decide (((pop (f i):Nat):Int)<(k:Int))=true from bD (by omega),kV (show i<9223372036854775807 by omega)]
   exact⟨by omega,_,_,_,rfl,s0,by simp[aE,q1],by simp[aE,q2],by simp[aE],by omega,eH hn hp⟩
theorem c80(n:Nat){ss:List (List UInt8)}{us:List Nat}{d e:D}(hd:Sl 1 iC ss d)(he:Sl 1 u8C us e)(hu:iM us)(hs:oS ss){x er:Int}(hC:CHK ss us=e2 x er):cl (n+6) 80 [.iptr [d,e] 0,.nils]=some (.int .i64 er,true):=by
 rw[cK (A:=A80) rfl (n+6) _ rfl,show A80.body=B80 from rfl]
 simp only[B80,Ab.abq];have htk:dE [d,e] 0 (some 2)=some (.agg [d,e]):=rfl;have h59:=c59 n hd he hu hs;rw[hC]at h59;by_cases h0:er=0
 ·subst h0;simp only[z2,seval,htk,aF (f:=59) rfl,aQ,hd.fz,he.fz,h59,fS,gW,bS,bM,eq_self,show lenD false .nils=some 0 from rfl]
  generalize hz:zloop KK _ _=rl;refine zrange rl hz 0 (fQ (by decide)) (by decide) (fun i t s c=>True) (by decide) (by simp[aE]) (by simp[aE]) trivial (fun i t s c hi=>absurd hi (by omega)) ?_
  rintro t s c _ hti htn;simp only[z2,seval,hti,htn,A80];rfl
 ·simp only[z2,seval,htk,aF (f:=59) rfl,aQ,hd.fz,he.fz,h59,fS,gW,aL h0,bV,aV,A80];rfl
theorem c43(n:Nat){ss:List (List UInt8)}{us:List Nat}{d e:D}(hd:Sl 1 iC ss d)(he:Sl 1 u8C us e)(hu:iM us)(hs:oS ss)(hC:CHK ss us=e2 0 0)(hul:us.length=ss.length)(h1:1≤ss.length)(h8:ss.length≤8):cl (n+7) 43 [.agg [d,e]]=some (e2 (endI (uM us) ss.length) 0,true):=by
 rw[cK (A:=A43) rfl (n+7) _ rfl,show A43.body=B43 from rfl]
 simp only[B43,Ab.abq];have h80:=c80 n hd he hu hs hC;have h81:=c81 (n+6) hd he hu h8 (by omega)
 have h82:=c82 (n+5) (lI hu) h1 h8;have htk:dE (ord17 ss.length (uM us) (dnM (uM us) ss.length us.length)) 1 (some 8)=some (.agg (row8 (uM us))):=rfl;have h0:(ord17 ss.length (uM us) (dnM (uM us) ss.length us.length))[0]?=some (.int .i64 (ss.length:Nat)):=rfl
 simp only[z2,seval,hd.nag,he.nag,aF (f:=80) rfl,aF (f:=81) rfl,aF (f:=82) rfl,aQ,hd.fz,he.fz,h80,h81,h82,htk,h0,gW,bS,bM,eq_self,uC,ord17_st _ _ _ [_,_,_,_,_,_,_,_,_,_,_,_,_,_,_,_,_] rfl,xL,bJ,aO,A43];rfl
end
end Zv
