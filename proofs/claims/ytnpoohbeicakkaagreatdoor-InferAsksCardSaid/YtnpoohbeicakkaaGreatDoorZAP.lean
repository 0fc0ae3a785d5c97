/- What functions come to: a lattice is checked, by the program. Conditions: none. -/
import Derived.Test.YtnpoohbeicakkaaGreatDoorZAO
set_option linter.unusedVariables false
set_option linter.unusedSimpArgs false
set_option maxRecDepth 100000
namespace Zv
open Go
noncomputable section
variable {ss:List (List UInt8)} {us:List Nat} {d e:D} {i n x b a:Nat}
theorem ord17_st(n:Nat)(f g:Nat→Nat)(zs:List D)(h:zs.length=17)(ty:Nat):stB (.fix ty zs) 0 (ord17 n f g)=some (.fix ty (ord17 n f g)):=stB_full h rfl
theorem ord17_tu(n:Nat)(f g:Nat→Nat):cX (ord17 n f g) 1 (some 8)=some (.agg (row8 f)):=rfl
theorem ord17_td(n:Nat)(f g:Nat→Nat):cX (ord17 n f g) 9 (some 8)=some (.agg (row8 g)):=rfl
theorem yJ(p:Bool)(n:Nat)(f:Nat→Nat)(s:St):(row8 f).mapM (frz p (n+1) s)=some (row8 f):=rfl
theorem dV(a e:Int):e2 a e = .tup [.int .i64 a,.int .i64 e]:=rfl
theorem c59(n:Nat)(hd:Sl 1 fM ss d)(he:Sl 1 u8C us e)(hu:fY us)(hs:oZ ss):cl (n+5) 59 [.agg [d,e]]=some (CHK ss us,true):=by
 rw[iP 59 A59 B59,B59];rcases mO ss with⟨h1,h2⟩|⟨h1,a,er,h2,h3⟩
 ·have hn:=oS.1 h1;obtain⟨v,Ds,hv2⟩:=all_u8 ss.length hn.1.1 hn.1.2;simp only[cI,iW,ex,jM,hd.len,he.len,↓reduceIte,Nat.reduceEqDiff,Nat.reduceAdd,Nat.reduceLeDiff,reduceCtorEq,bM,dJ,eq_self,aM,aN,hd.nag,he.nag,aF 106,aJ,hd.fz,c106 n hd hs,h2,dV,Ds,hv2];by_cases hl:us.length=ss.length
  ·simp only[eq_true (show(((us.length:Nat):Int)=(ss.length:Nat)) by omega),xL,iW,ex,jM,hd.len,he.len,↓reduceIte,Nat.reduceEqDiff,Nat.reduceAdd,Nat.reduceLeDiff,reduceCtorEq,bM,dJ,eq_self,aM,aN,Ds,hv2]
   generalize zC (AC.skip.seq _) _ _ _=F;generalize hz:zloop KK _ _=rl;have Aa:2 ^ ss.length-1<256:=by
    have:2 ^ ss.length≤2 ^ 8:=Nat.pow_le_pow_right (by omega) hn.1.2
    omega
   have Cw:bX .i64 ((ss.length:Int)-1)=((ss.length-1:Nat):Int):=by
    rw[cL (by omega) (by omega)];omega
   have Jk:∀{i:Nat},i<ss.length→mI ss.length (uM us) i=false→(∀j,j<i→sE ss.length (uM us) j=none)→CHK ss us=e2 i 6:=fun {i} hi ho hb=>by
    grind [CHK,ordD,eL,sE]
   have Co:=kY hu;refine zrange rl hz us.length (dY (by omega)) (by omega) (fun i t s c=>s=sadd st0 0 (.fix 26 [d,e])∧c=1∧tget t 1 = .ptr 0 0∧tget t 6 = .int .i64 (ss.length:Nat)∧tget t 7 = .int .u8 ((2 ^ ss.length-1:Nat):Int)∧tget t 37=e∧∀j,j<i→sE ss.length (uM us) j=none) (by decide) (by simp[aA]) (by simp[aA]) ?_ ?_ ?_
   ·simp only[aA,↓reduceIte,Nat.reduceEqDiff,Nat.not_lt_zero];grind
   ·rintro i t s c hi ⟨rfl,rfl,q1,q6,q7,Dk,hb⟩ Ed Fq;have hx:us[i]=uM us i:=(jK hi 0).symm;obtain⟨w,Ka,hw2⟩:=c107 (n+4) (uM us i) (Co i);simp only[ex,jM,↓reduceIte,Nat.reduceEqDiff,Nat.reduceAdd,Nat.reduceLeDiff,reduceCtorEq,q1,q6,q7,Dk,Fq,Ed,he.ia1 hi,he.at1 hi,u8C,aV,hx,aF 107,aJ,Ka,hw2 _ hn.1.2];cases zQ:Nat.blt (uM us i) (2 ^ ss.length)
    ·simp only[ex,jM,↓reduceIte,Nat.reduceEqDiff,Nat.reduceAdd,Nat.reduceLeDiff,reduceCtorEq,q1,q6,q7,Dk,Fq,Ed,aW,bD,eS,beq_iff_eq,A59];rw[Jk (by omega) (by grind [mI]) hb];rfl
    simp only[ex,jM,↓reduceIte,Nat.reduceEqDiff,Nat.reduceAdd,Nat.reduceLeDiff,reduceCtorEq,q1,q6,q7,Dk,Fq,Ed,aW,bD,eS,beq_iff_eq,iC i (Co i),iM i (Co i),uN];cases Ce:(uM us i).testBit i
    ·simp only[ex,jM,↓reduceIte,Nat.reduceEqDiff,Nat.reduceAdd,Nat.reduceLeDiff,reduceCtorEq,q1,q6,q7,Dk,Fq,Ed,aW,bD,A59];rw[Jk (by omega) (by grind [mI]) hb];rfl
    simp only[ex,jM,↓reduceIte,Nat.reduceEqDiff,Nat.reduceAdd,Nat.reduceLeDiff,reduceCtorEq,q1,q6,q7,Dk,Fq,Ed,aW,bD,he.len];generalize Bz:zloop KK _ _=rl2;have Ny:∀{t:Tm} {s:St} {c:Nat},s=sadd st0 0 (.fix 26 [d,e])→c=1→tget t 1 = .ptr 0 0→tget t 6 = .int .i64 (ss.length:Nat)→tget t 7 = .int .u8 ((2 ^ ss.length-1:Nat):Int)→tget t 37=e→True:=fun _ _ _ _ _ _=>trivial
    refine zrange rl2 Bz us.length (dY (by omega)) (by omega) (fun j t s c=>s=sadd st0 0 (.fix 26 [d,e])∧c=1∧tget t 1 = .ptr 0 0∧tget t 6 = .int .i64 (ss.length:Nat)∧tget t 7 = .int .u8 ((2 ^ ss.length-1:Nat):Int)∧tget t 37=e∧tget t 38 = .int .i64 (us.length:Nat)∧tget t 39 = .int .i64 (i:Nat)∧tget t 57=e∧tget t 8 = .int .i64 (i:Nat)∧tget t 9 = .int .u8 (uM us i:Nat)∧∀k,k<j→okA ss.length (uM us) i k=true) (by decide) (by simp[aA]) (by simp[aA]) ?_ ?_ ?_
    ·simp only[aA,↓reduceIte,Nat.reduceEqDiff,Nat.not_lt_zero,q1,q6,q7,Dk,Fq,Ed];grind
    ·rintro j t s c hj ⟨rfl,rfl,q1,q6,q7,Dk,Fq,Ed,Nq,q8,q9,Ot⟩ Nn Np;have Rl:us[j]=uM us j:=(jK hj 0).symm;have h8:uM us j&&&(2 ^ ss.length-1)<256:=Nat.lt_of_le_of_lt Nat.and_le_left (Co j);have Bh:okA ss.length (uM us) i j=true→∀k,k<j+1→okA ss.length (uM us) i k=true:=fun h k hk=>by
      grind
     have Bl:okA ss.length (uM us) i j=false→mI ss.length (uM us) i=false:=fun h=>by
      rw[mI,oY (show j<ss.length by omega) h,Bool.and_false,Bool.and_false]
     have Em:okA ss.length (uM us) i j=true→j=ss.length-1→sE ss.length (uM us) i=none:=fun h e=>by
      rw[sE,mI,zQ,Ce,jI.2 fun k hk=>Bh h k (by omega)];rfl
     have Cd:okA ss.length (uM us) i j=true→decide (((j:Nat):Int)=((ss.length-1:Nat):Int))=true∧sE ss.length (uM us) i=none∨decide (((j:Nat):Int)=((ss.length-1:Nat):Int))=false:=fun h=>by
      grind
     cases Cj:(uM us i).testBit j
     ·have h:okA ss.length (uM us) i j=true:=by rw[okA,Cj];rfl
      simp only[ex,jM,↓reduceIte,Nat.reduceEqDiff,Nat.reduceAdd,Nat.reduceLeDiff,reduceCtorEq,q1,q6,q7,q8,q9,Dk,Fq,Ed,Nq,Np,Nn,he.ia1 hj,he.at1 hj,u8C,aV,Rl,iC j (Co i),iM j (Co i),uN,Cj,bD,aW,Cw];rcases Cd h with⟨e,hp⟩|e
      ·simp only[e,ex,go1,↓reduceIte,Nat.reduceEqDiff,reduceCtorEq,q1,q6,q7,Dk,Fq,Ed]
       grind
      simp_all [ex,reduceIte,Nat.reduceEqDiff,reduceCtorEq]
     ·have Av:okA ss.length (uM us) i j=((Nat.beq j i || !(uM us j).testBit i)&&Nat.beq ((uM us j&&&(2 ^ ss.length-1))&&&uM us i) (uM us j&&&(2 ^ ss.length-1))):=by rw[okA,Cj];rfl
      have Gt:=andN_0 h8 (Co i);cases Qv:Nat.beq ((uM us j&&&(2 ^ ss.length-1))&&&uM us i) (uM us j&&&(2 ^ ss.length-1))
      ·have h:okA ss.length (uM us) i j=false:=by rw[Av,Qv,Bool.and_false]
       rw[Qv]at Gt;by_cases Hp:j=i
       ·have Ks:decide (((j:Nat):Int)≠(i:Nat))=false:=by simp[oD,Hp]
        cases Bb:(uM us j).testBit i
        ·grind
        ·simp only[ex,jM,↓reduceIte,Nat.reduceEqDiff,Nat.reduceAdd,Nat.reduceLeDiff,reduceCtorEq,q1,q6,q7,q8,q9,Dk,Fq,Ed,Nq,Np,Nn,he.ia1 hj,he.at1 hj,u8C,aV,Rl,iC j (Co i),iM j (Co i),uN,Cj,bD,aW,Cw,iC i (Co j),iM i (Co j),qE,Bb,iQ (Co j) Aa,oN,Gt,eS,beq_iff_eq,show(true==false)=false from rfl,show(false==true)=false from rfl,Ks,A59]
         rw[Jk (by omega) (Bl h) hb];rfl
       ·have Ks:decide (((j:Nat):Int)≠(i:Nat))=true:=by simp[oD,Hp]
        cases Bb:(uM us j).testBit i
        ·simp only[ex,jM,↓reduceIte,Nat.reduceEqDiff,Nat.reduceAdd,Nat.reduceLeDiff,reduceCtorEq,q1,q6,q7,q8,q9,Dk,Fq,Ed,Nq,Np,Nn,he.ia1 hj,he.at1 hj,u8C,aV,Rl,iC j (Co i),iM j (Co i),uN,Cj,bD,aW,Cw,iC i (Co j),iM i (Co j),qE,Bb,iQ (Co j) Aa,oN,Gt,eS,beq_iff_eq,show(true==false)=false from rfl,show(false==true)=false from rfl,Ks,A59]
         rw[Jk (by omega) (Bl h) hb];rfl
        ·simp only[ex,jM,↓reduceIte,Nat.reduceEqDiff,Nat.reduceAdd,Nat.reduceLeDiff,reduceCtorEq,q1,q6,q7,q8,q9,Dk,Fq,Ed,Nq,Np,Nn,he.ia1 hj,he.at1 hj,u8C,aV,Rl,iC j (Co i),iM j (Co i),uN,Cj,bD,aW,Cw,iC i (Co j),iM i (Co j),qE,Bb,iQ (Co j) Aa,oN,Gt,eS,beq_iff_eq,show(true==false)=false from rfl,show(false==true)=false from rfl,Ks,A59]
         rw[Jk (by omega) (Bl h) hb];rfl
      ·rw[Qv]at Gt;by_cases Hp:j=i
       ·have Ks:decide (((j:Nat):Int)≠(i:Nat))=false:=by simp[oD,Hp]
        have h:okA ss.length (uM us) i j=true:=by rw[Av,Qv,Hp,eQ];rfl
        cases Bb:(uM us j).testBit i
        ·grind
        ·skip
         simp only[ex,jM,↓reduceIte,Nat.reduceEqDiff,Nat.reduceAdd,Nat.reduceLeDiff,reduceCtorEq,q1,q6,q7,q8,q9,Dk,Fq,Ed,Nq,Np,Nn,he.ia1 hj,he.at1 hj,u8C,aV,Rl,iC j (Co i),iM j (Co i),uN,Cj,bD,aW,Cw,iC i (Co j),iM i (Co j),qE,Bb,iQ (Co j) Aa,oN,Gt,eS,beq_iff_eq,show(true==false)=false from rfl,show(false==true)=false from rfl,Ks]
         rcases Cd h with⟨e,hp⟩|e
         ·simp only[e,ex,go1,↓reduceIte,Nat.reduceEqDiff,reduceCtorEq,q1,q6,q7,Dk,Fq,Ed]
          grind
         ·simp only[e,ex,go1,↓reduceIte,Nat.reduceEqDiff,reduceCtorEq,q1,q6,q7,q8,q9,Dk,Fq,Ed,Nq,Np,Nn]
          grind
       ·have Ks:decide (((j:Nat):Int)≠(i:Nat))=true:=by simp[oD,Hp]
        cases Bb:(uM us j).testBit i
        ·have h:okA ss.length (uM us) i j=true:=by rw[Av,Qv,Bb,jH Hp];rfl
         simp only[ex,jM,↓reduceIte,Nat.reduceEqDiff,Nat.reduceAdd,Nat.reduceLeDiff,reduceCtorEq,q1,q6,q7,q8,q9,Dk,Fq,Ed,Nq,Np,Nn,he.ia1 hj,he.at1 hj,u8C,aV,Rl,iC j (Co i),iM j (Co i),uN,Cj,bD,aW,Cw,iC i (Co j),iM i (Co j),qE,Bb,iQ (Co j) Aa,oN,Gt,eS,beq_iff_eq,show(true==false)=false from rfl,show(false==true)=false from rfl,Ks]
         rcases Cd h with⟨e,hp⟩|e
         ·simp only[e,ex,go1,↓reduceIte,Nat.reduceEqDiff,reduceCtorEq,q1,q6,q7,Dk,Fq,Ed]
          grind
         ·simp only[e,ex,go1,↓reduceIte,Nat.reduceEqDiff,reduceCtorEq,q1,q6,q7,q8,q9,Dk,Fq,Ed,Nq,Np,Nn]
          grind
        ·have h:okA ss.length (uM us) i j=false:=by rw[Av,Qv,Bb,jH Hp];rfl
         simp only[ex,jM,↓reduceIte,Nat.reduceEqDiff,Nat.reduceAdd,Nat.reduceLeDiff,reduceCtorEq,q1,q6,q7,q8,q9,Dk,Fq,Ed,Nq,Np,Nn,he.ia1 hj,he.at1 hj,u8C,aV,Rl,iC j (Co i),iM j (Co i),uN,Cj,bD,aW,Cw,iC i (Co j),iM i (Co j),qE,Bb,iQ (Co j) Aa,oN,Gt,eS,beq_iff_eq,show(true==false)=false from rfl,show(false==true)=false from rfl,Ks,A59]
         rw[Jk (by omega) (Bl h) hb];rfl
    ·rintro t s c ⟨rfl,rfl,q1,q6,q7,Dk,Fq,Ed,Nq,q8,q9,Ot⟩ Nn Np;have hp:sE ss.length (uM us) i=none:=by
      rw[sE,mI,zQ,Ce,jI.2 fun k hk=>Ot k (by omega)];rfl
     simp only[ex,go1,↓reduceIte,Nat.reduceEqDiff,reduceCtorEq,q1,q6,q7,Dk,Fq,Ed]
     grind
   ·rintro t s c ⟨rfl,rfl,q1,q6,q7,Dk,hb⟩ Ed Fq;have Vj:∀a,a<ss.length→mI ss.length (uM us) a=true:=fun a ha=>by
     grind [sE,mI,uM]
    have Vc:∀a,a<ss.length→(uM us a).testBit a=true:=fun a ha=>by
     grind [mI]
    have Rr:∀a,a<ss.length→(dnM (uM us) ss.length ss.length a).testBit a=true:=fun a ha=>by
     grind [yS]
    have Wx:=c81 (n+4) hd he hu hn.1.2 (by omega)
    rw[hl]at Wx;have Su:CHK ss us=sF ss.length (uM us):=by
     simp_all [CHK,ordD,fL]
    rw[Su];simp only[exq,↓reduceIte,Nat.reduceEqDiff,Nat.reduceAdd,Nat.reduceLeDiff,reduceCtorEq,q1,q6,q7,Dk,Fq,Ed,aF 81,aJ,hd.fz,he.fz,Wx,ord17_len,ord17_st _ _ _ [_,_,_,_,_,_,_,_,_,_,_,_,_,_,_,_,_] rfl];generalize Lr:zloop KK _ _=rl3;have hu8:∀i,dnM (uM us) ss.length ss.length i<256:=fun i=>dnM_u8 i hn.1.2
    refine zrange rl3 Lr ss.length (dY (by omega)) (by omega) (fun i t s c=>sget s 1=some (.fix 144 (ord17 ss.length (uM us) (dnM (uM us) ss.length ss.length)))∧tget t 6 = .int .i64 (ss.length:Nat)∧tget t 12 = .ptr 1 0∧∀j,j<i→latP ss.length (uM us) j=none) (by decide) (by simp[aA]) (by simp[aA,q6]) ?_ ?_ ?_
    ·simp only[aA,↓reduceIte,Nat.reduceEqDiff,Nat.not_lt_zero,q6];grind
    ·rintro i t s c hi ⟨Ax,q6,q12,hb⟩ Nk Nl;have Jk:lat2 ss.length (uM us) i=lat2 ss.length (uM us) i:=rfl;simp only[exq,jM,↓reduceIte,Nat.reduceEqDiff,Nat.reduceAdd,Nat.reduceLeDiff,reduceCtorEq,Ax,q6,q12,Nl,Nk];generalize Uw:zloop KK _ _=rl4
     refine zrange rl4 Uw ss.length (dY (by omega)) (by omega) (fun j t s c=>sget s 1=some (.fix 144 (ord17 ss.length (uM us) (dnM (uM us) ss.length ss.length)))∧tget t 6 = .int .i64 (ss.length:Nat)∧tget t 12 = .ptr 1 0∧tget t 13 = .int .i64 (i:Nat)∧tget t 95 = .int .i64 (ss.length:Nat)∧tget t 96 = .int .i64 (i:Nat)∧∀k,k<j→lat2 ss.length (uM us) i k=true) (by decide) (by simp[aA]) (by simp[aA,q6]) ?_ ?_ ?_
     ·simp only[aA,↓reduceIte,Nat.reduceEqDiff,Nat.not_lt_zero,q6,q12,Nl,Nk];grind
     ·rintro j t s c hj ⟨Ax,q6,q12,q13,Nl,Nk,Ot⟩ Oh Xw;have r1:=c108 (n+4) (uM us) Co hn.1.2 (show i<8 by omega) (show j<8 by omega)
      have r2:=c109 (n+4) (dnM (uM us) ss.length ss.length) hu8 hn.1.2 (show i<8 by omega) (show j<8 by omega)
      rw[bound_near Vc]at r1;rw[bound_near Rr]at r2;have Bl:lat2 ss.length (uM us) i j=false→sF ss.length (uM us)=e2 i 4:=fun h=>by
       rw[sF,eL hi (by rw[latP,latB,oY hj h];rfl) hb]
      cases Ey:decide (kL (uM us) ss.length i j<0)
      ·cases Eh:decide (kL (dnM (uM us) ss.length ss.length) ss.length i j<0)
       ·have h:lat2 ss.length (uM us) i j=true:=by rw[lat2,Ey,Eh];rfl
        simp only[exq,jM,↓reduceIte,Nat.reduceEqDiff,Nat.reduceAdd,Nat.reduceLeDiff,reduceCtorEq,Ax,q6,q12,q13,Nl,Nk,Xw,Oh,ord17_tu,ord17_td,aF 108,aF 109,aJ,yJ,r1,r2,Ey,Eh,Bool.true_or,eS,A59]
        grind
       ·have h:lat2 ss.length (uM us) i j=false:=by rw[lat2,Ey,Eh];rfl
        simp only[exq,jM,↓reduceIte,Nat.reduceEqDiff,Nat.reduceAdd,Nat.reduceLeDiff,reduceCtorEq,Ax,q6,q12,q13,Nl,Nk,Xw,Oh,ord17_tu,ord17_td,aF 108,aF 109,aJ,yJ,r1,r2,Ey,Eh,Bool.true_or,eS,A59];rw[Bl h];rfl
      ·have h:lat2 ss.length (uM us) i j=false:=by rw[lat2,Ey];rfl
       simp only[exq,jM,↓reduceIte,Nat.reduceEqDiff,Nat.reduceAdd,Nat.reduceLeDiff,reduceCtorEq,Ax,q6,q12,q13,Nl,Nk,Xw,Oh,ord17_tu,ord17_td,aF 108,aF 109,aJ,yJ,r1,r2,Ey,Bool.true_or,eS,show(true==false)=false from rfl,A59]
       rw[Bl h];rfl
     ·rintro t s c ⟨Ax,q6,q12,q13,Nl,Nk,Ot⟩ Oh Xw;have hp:latP ss.length (uM us) i=none:=by rw[latP,latB,jI.2 Ot];rfl
      simp only[exq,jM,↓reduceIte,Nat.reduceEqDiff,Nat.reduceAdd,Nat.reduceLeDiff,reduceCtorEq,q6,q12,Nl,Nk]
      grind
    ·rintro t s c ⟨Ax,q6,q12,hb⟩ Nk Nl;simp only[exq,jM,↓reduceIte,Nat.reduceEqDiff,Nat.reduceAdd,Nat.reduceLeDiff,reduceCtorEq,q6,q12,Nl,Nk,A59];rw[sF,fL hb];rfl
  ·simp only[aL (show ¬(((us.length:Nat):Int)=(ss.length:Nat)) by omega),xL,iW,ex,jM,hd.len,he.len,↓reduceIte,Nat.reduceEqDiff,Nat.reduceAdd,Nat.reduceLeDiff,reduceCtorEq,bM,dJ,eq_self,aM,aN,A59]
   rw[CHK,aS h1,aG hl];rfl
 ·simp only[cI,iW,ex,jM,hd.len,he.len,↓reduceIte,Nat.reduceEqDiff,Nat.reduceAdd,Nat.reduceLeDiff,reduceCtorEq,bM,dJ,eq_self,aM,aN,hd.nag,he.nag,aF 106,aJ,hd.fz,c106 n hd hs,h2,dV,aL h3,A59];rw[CHK,aG (by grind),h2];rfl
theorem le_nat(a b:Nat):decide (((a:Nat):Int)≤(b:Nat))=Nat.ble a b:=by rw[fF];simp[Nat.ble_eq]
theorem lowerB_eq(b:UInt8):kF b=(decide ((97:Int)≤(b.toNat:Int))&&decide ((b.toNat:Int)≤(122:Int))):=by
 rw[kF,←le_nat,←le_nat];rfl
theorem digitB_eq(b:UInt8):qD b=(decide ((48:Int)≤(b.toNat:Int))&&decide ((b.toNat:Int)≤(57:Int))):=by
 rw[qD,←le_nat,←le_nat];rfl
theorem c183(n:Nat)(b:UInt8):cl n 183 [.int .u8 b.toNat]=some (.bool (kF b),true):=by
 rw[iP 183 A183 B183,lowerB_eq,B183];cases h3:decide ((97:Int)≤(b.toNat:Int))
 ·simp only[z0,seval,h3,A183];rfl
 ·simp only[z0,seval,h3,A183];rfl
theorem c184(n:Nat)(b:UInt8):cl n 184 [.int .u8 b.toNat]=some (.bool (qD b),true):=by
 rw[iP 184 A184 B184,digitB_eq,B184];cases h3:decide ((48:Int)≤(b.toNat:Int))
 ·simp only[z0,seval,h3,A184];rfl
 ·simp only[z0,seval,h3,A184];rfl
theorem c152(n:Nat)(s:List UInt8)(hs:s.length<9223372036854775807):cl (n+1) 152 [.str s]=some (.bool (oC s),true):=by
 rw[iP 152 A152 B152,B152];cases s with
 | nil=>
  simp only[z0,seval,A152,aX];rfl
 | cons b r=>
  have h1:decide (((b::r).length:Int)<1)=false:=by simp;omega
  have Da:iF (b::r).length (.int .i64 0)=some 0:=idxD_0 (by simp)
  have hn:oC (b::r)=(Nat.ble (b::r).length 16&&(kF b&&(b::r).all gO)):=rfl;cases De:decide ((16:Int)<((b::r).length:Int))
  ·have e16:Nat.ble (b::r).length 16=true:=bO (by simp at De;simp;omega)
   cases hb:kF b
   ·simp only[z0,seval,h1,De,Da,aV,aF 183,aJ,c183,hb,A152];rw[hn,hb,Bool.false_and,Bool.and_false];rfl
   ·simp only[z0,seval,h1,De,Da,aV,aF 183,aJ,c183,hb];generalize hz:zloop KK _ _=rl;refine zfor rl hz (b::r).length (dY hs) hs (fun i t s c=>tget t 0 = .str (b::r)∧∀j (h:j<(b::r).length),j<i→gO (b::r)[j]=true) (by simp[aA]) (by simp[aA]) ?_
    rintro i t s c hi ⟨h0,Aa⟩ h3;have Em:∀(h:i<(b::r).length),gO (b::r)[i]=true→∀j (h:j<(b::r).length),j<i+1→gO (b::r)[j]=true:=fun h hc j hj Qo=>by
     rcases iI.1 Qo with h'|rfl
     ·exact Aa j hj h'
     ·exact hc
    by_cases zQ:i<(b::r).length
    ·have hd:decide ((i:Int)<((b::r).length:Int))=true:=by rw[bZ];omega
     have hg:(b::r)[i]?=some (b::r)[i]:=aI zQ;have Bl:gO (b::r)[i]=false→oC (b::r)=false:=fun h=>by
      rw[hn,show(b::r).all gO=false from ?_,Bool.and_false,Bool.and_false]
      rw[←gI,cF];intro h';rw[h' _ (bQ zQ)]at h;cases h
     generalize Iq:(b::r)[i]=ch at hg Bl Em;cases h1:kF ch
     ·cases h2:qD ch
      ·cases Ui:decide ((ch.toNat:Int)=45)
       ·have hc:gO ch=false:=by
         rw[gO,h1,h2,Bool.false_or,Bool.false_or,←gI,Nat.beq_eq];intro h;rw[h]at Ui;cases Ui
        simp only[z0,seval,hd,h0,h3,fB zQ,hg,aF 183,aF 184,aJ,c183,c184,h1,h2,Ui,dJ,bN,A152];rw[Bl hc];rfl
       ·have hc:gO ch=true:=by
         rw[gO,h1,h2,Bool.false_or,Bool.false_or,Nat.beq_eq];rw[bZ]at Ui;exact Int.ofNat_inj.1 Ui
        simp only[z0,seval,hd,h0,h3,fB zQ,hg,aF 183,aF 184,aJ,c183,c184,h1,h2,Ui,dJ,bN];exact⟨zQ,trivial,trivial,trivial,trivial,Em zQ (Iq▸hc)⟩
      ·have hc:gO ch=true:=by rw[gO,h1,h2];rfl
       simp only[z0,seval,hd,h0,h3,fB zQ,hg,aF 183,aF 184,aJ,c183,c184,h1,h2];exact⟨zQ,trivial,trivial,trivial,trivial,Em zQ (Iq▸hc)⟩
     ·have hc:gO ch=true:=by rw[gO,h1];rfl
      simp only[z0,seval,hd,h0,h3,fB zQ,hg,aF 183,aF 184,aJ,c183,c184,h1];exact⟨zQ,trivial,trivial,trivial,trivial,Em zQ (Iq▸hc)⟩
    ·have hd:decide ((i:Int)<((b::r).length:Int))=false:=by rw[cD];omega
     have Av:oC (b::r)=true:=by
      rw[hn,e16,hb,cF.2];· rfl
      intro x hx;obtain⟨j,hj,rfl⟩:=List.mem_iff_getElem.1 hx;exact Aa j hj (by omega)
     simp only[z0,seval,hd,h0,h3,A152];rw[Av];rfl
  ·have e16:Nat.ble (b::r).length 16=false:=by rw[←gI,Nat.ble_eq];simp at De;simp;omega
   simp only[z0,seval,h1,De,A152];rw[hn,e16];rfl
theorem dH(h:i<n):decide ((i:Int)<(n:Int))=true:=by rw[bZ];omega
theorem gG(h:n≤i):decide ((i:Int)<(n:Int))=false:=by rw[cD];omega
theorem vT(x:List UInt8):(ss.take i).contains x=true↔∃j,∃h:j<ss.length,j<i∧ss[j]=x:=by
 rw[List.contains_iff_mem,List.mem_iff_getElem];constructor
 ·rintro⟨j,hj,e⟩;rw[eI]at hj;rw[List.getElem_take]at e;exact⟨j,by omega,by omega,e⟩
 ·rintro⟨j,hj,h2,e⟩;exact⟨j,by rw[eI];omega,by rw[List.getElem_take];exact e⟩
theorem c102(n:Nat)(hd:Sl 1 fM ss d)(hs:oZ ss):cl (n+2) 102 [d]=some (nE ss,true):=by
 rw[iP 102 A102 B102,B102];by_cases h1:((ss.length:Nat):Int)<1
 ·simp only[z0,seval,h1,aQ,hd.len,A102];unfold nE;rw[aG (by omega)];rfl
 by_cases h8:(8:Int)<((ss.length:Nat):Int)
 ·simp only[z0,seval,h1,h8,aQ,aP,hd.len,A102];unfold nE;rw[aG (by omega)];rfl
 simp only[z0,seval,h1,h8,aP,hd.len];have Es:nE ss=scan (jQ ss) (e2 0 0) ss.length 0:=aS ⟨by omega,by omega⟩
 generalize hz:zloop KK _ _=rl;refine zfor rl hz ss.length (dY (by omega)) (by omega) (fun i t s' c=>tget t 0=d∧∀j,j<i→jQ ss j=none) (by simp[aA]) (by simp[aA]) ?_
 rintro i t s' c hi ⟨h0,hb⟩ h4;by_cases zQ:i<ss.length
 ·have Rq:(ss[i]).length<9223372036854775807:=hs _ (bQ zQ);cases Av:oC ss[i]
  ·have hp:jQ ss i=some (e2 i 6):=by unfold jQ;rw[jK zQ,Av];rfl
   simp only[z0,seval,h0,h4,hd.len,dH zQ,hd.ia1 zQ,hd.at1 zQ,fM,aV,aF 152,aJ,c152 n _ Rq,Av,A102];rw[Es,eL zQ hp hb];rfl
  ·simp only[z0,seval,h0,h4,hd.len,dH zQ,hd.ia1 zQ,hd.at1 zQ,fM,aV,aF 152,aJ,c152 n _ Rq,Av];generalize Bz:zloop KK _ _=rl2;refine zfor rl2 Bz i (dY (by omega)) (by omega) (fun k t s' c=>tget t 0=d∧tget t 4 = .int .i64 (i:Nat)∧∀j (h:j<ss.length),j<k→ss[j]≠ss[i]) (by simp[aA]) (by simp[aA,h0,h4]) ?_
   rintro k t s' c hk ⟨h0,h4,An⟩ h5;by_cases Ek:k<i
   ·have Ht:k<ss.length:=by omega
    by_cases he:ss[k]=ss[i]
    ·have hp:jQ ss i=some (e2 i 8):=by
      unfold jQ;rw[jK zQ,Av,(vT _).2 ⟨k,Ht,Ek,he⟩];rfl
     simp only[z0,seval,h0,h4,h5,dH Ek,dR,cN,fX,AOp.kd,eE,eY,eJ,dW,cC,dD,hd.ia1 zQ,hd.at1 zQ,hd.ia1 Ht,hd.at1 Ht,fM,aV,he,A102];rw[Es,eL zQ hp hb];rfl
    ·simp only[z0,seval,h0,h4,h5,dH Ek,dR,cN,fX,AOp.kd,eE,eY,eJ,dW,cC,dD,hd.ia1 zQ,hd.at1 zQ,hd.ia1 Ht,hd.at1 Ht,fM,aV,he,aP];refine⟨Ek,trivial,trivial,trivial,trivial,trivial,fun j hj Qo=>?_⟩
     rcases iI.1 Qo with h|rfl
     ·exact An j hj h
     ·exact he
   ·have hp:jQ ss i=none:=by
     unfold jQ;rw[jK zQ,Av];have:(ss.take i).contains ss[i]=false:=by
      rw[←gI,vT];rintro⟨j,h1,h2,h3⟩;exact An j h1 (by omega) h3
     rw[this];rfl
    simp only[z0,seval,h0,h4,h5,gG (show i≤k by omega)]
    exact⟨zQ,trivial,trivial,trivial,trivial,kP hb hp⟩
 ·simp only[z0,seval,h0,h4,hd.len,gG (show ss.length≤i by omega),A102]
  have e:i=ss.length:=by omega
  subst e;rw[Es,fL hb];rfl
theorem b_rem_u8(hx:x<256):kN .rem (.int .u8 ((x >>> b:Nat):Int)) (.int .u8 2)=some (.int .u8 ((bitN x b:Nat):Int)):=by
 have h:(x >>> b) % 2=bitN x b:=by
  rw[←Nat.and_one_is_mod,bit_eq];rfl
 have h2:bitN x b<2:=by unfold bitN;split<;>omega
 show(if(2:Int)=0 then none else some (D.int .u8 (Int.tmod ((x >>> b:Nat):Int) 2)))=_
 rw[aG (by omega),show Int.tmod ((x >>> b:Nat):Int) 2=(((x >>> b) % 2:Nat):Int) from rfl,h]
theorem c56(n:Nat)(Ja:eG d=false)(he:Sl 1 u8C us e)(hu:fY us)(ha:a<us.length)(b:Nat):
  cl n 56 [.agg [d,e],.int .i64 (a:Int),.int .i64 (b:Int)]=some (.bool ((uM us a).testBit b),true):=by
 rw[nY 56 A56 B56,B56];have hx:us[a]=uM us a:=(jK ha 0).symm;have h0:∀k:Nat,decide ((0:Int)≤(k:Int))=true:=fun k=>by simp
 simp only[z0,seval,h0,he.len,dH ha,he.ia1 ha,he.at1 ha,u8C,aV,hx,iC b (kY hu a),b_rem_u8 (kY hu a),qE,A56];rfl
theorem c52(n:Nat)(he:Sl 1 u8C us e)(hu:fY us)(hl:us.length≤8)(ha:a<us.length)(hb:b<us.length):
  cl n 52 [e,.int .i64 (a:Int),.int .i64 (b:Int)]=some (.int .i64 (kL (uM us) us.length a b),true):=by
 rw[nY 52 A52 B52,B52];have hx:∀c (hc:c<us.length),us[c]=uM us c:=fun c hc=>(jK hc 0).symm
 simp only[z0,seval,dR,cN,fX,AOp.kd,eE,eY,eJ,dW,cC,dD,he.len,he.ia1 ha,he.at1 ha,he.ia1 hb,he.at1 hb,u8C,aV,hx _ ha,hx _ hb,iQ (kY hu a) (kY hu b)];generalize hz:zloop KK _ _=rl
 refine zfor rl hz us.length (dY (by omega)) (by omega) (fun i t s c=>tget t 0=e∧tget t 7 = .int .u8 ((uM us a&&&uM us b:Nat):Int)∧∀j,j<i→kJ (uM us) a b j=none) (by simp[aA]) (by simp[aA]) ?_
 rintro i t s c hi ⟨h0,h7,hn⟩ h8;by_cases zQ:i<us.length
 ·by_cases e1:uM us i=uM us a&&&uM us b
  ·have hp:kJ (uM us) a b i=some (i:Int):=by unfold kJ;rw[e1,eQ];rfl
   simp only[z0,seval,h0,h7,h8,he.len,dH zQ,he.ia1 zQ,he.at1 zQ,u8C,aV,hx _ zQ,oD,aH e1,A52];unfold kL;rw[eL zQ hp hn];rfl
  ·have hp:kJ (uM us) a b i=none:=by unfold kJ;rw[jH e1];rfl
   simp only[z0,seval,h0,h7,h8,he.len,dH zQ,he.ia1 zQ,he.at1 zQ,u8C,aV,hx _ zQ,oD,aE e1];exact⟨zQ,trivial,trivial,trivial,trivial,trivial,kP hn hp⟩
 ·have e1:i=us.length:=by omega
  subst e1;simp only[z0,seval,h0,h7,h8,he.len,gG (aK us.length),A52];unfold kL;rw[fL hn];rfl
def cells8(g:Nat→Nat)(n:Nat):List D:=(List.range n).map fun b=>.int .u8 (g b:Nat)
theorem wK(g:Nat→Nat)(n:Nat):(cells8 g n).length=n:=by simp[cells8]
theorem cells8_at(g:Nat→Nat)(h:b<n):(cells8 g n)[b]?=some (.int .u8 (g b:Nat)):=by simp[cells8,h]
theorem cells8_set(g:Nat→Nat)(v:Nat)(h:b<n):(cells8 g n).set b (.int .u8 (v:Nat))=cells8 (upd g b v) n:=by
 apply List.ext_getElem?
 grind [wK,cells8_at,upd,kH]
theorem rep8(n:Nat):rep n [.int .u8 0]=cells8 (fun _=>0) n:=by
 have:∀n,(List.replicate n [D.int .u8 0]).flatten=List.replicate n (D.int .u8 0):=fun n=>by
  simp_all
 grind [rep,cells8,List.map_const',List.length_range]
theorem mS(p:Bool)(n:Nat)(s:St)(nm off sz len cap:Nat):frz p (n+1) s (.ms nm off sz len cap)=(match sget s nm with
   | some (.fix _ cs)=>bif Nat.ble (off+len*sz) cs.length then(((cs.drop off).take (len*sz)).mapM (frz p n s)).map (.sl (Nat.beq cap len) len) else none
   | some (.grow _ cs)=>bif Nat.ble (off+len*sz) cs.length then(((cs.drop off).take (len*sz)).mapM (frz p n s)).map (.sl (Nat.beq cap len) len) else none
   | _=>none):=rfl
theorem lP(p:Bool)(n:Nat)(s:St)(nm off sz len:Nat):frz p (n+1) s (.gs nm off sz len)=(match sget s nm with
   | some (.grow _ cs)=>bif Nat.ble (off+len*sz) cs.length then(((cs.drop off).take (len*sz)).mapM (frz p n s)).map (.sl false len) else none
   | _=>none):=rfl
theorem frz_cells8(p:Bool)(k:Nat)(s:St)(g:Nat→Nat)(n:Nat):(cells8 g n).mapM (frz p (k+1) s)=some (cells8 g n):=by
 have:∀l:List Nat,(l.map fun b=>D.int .u8 (g b:Nat)).mapM (frz p (k+1) s)=some (l.map fun b=>D.int .u8 (g b:Nat)):=by
  intro l
  induction l with
  | nil=>rfl
  | cons a l ih=>rw[bS,List.mapM_cons,ih];rfl
 exact this _
theorem one_u8:∀n:Nat,n<8→kN .shl (.int .u8 1) (.int .i64 (n:Int))=some (.int .u8 ((2 ^ n:Nat):Int))
 | 0,_=>rfl
 | 1,_=>rfl
 | 2,_=>rfl
 | 3,_=>rfl
 | 4,_=>rfl
 | 5,_=>rfl
 | 6,_=>rfl
 | 7,_=>rfl
 | n+8,h=>by omega
def yR(n:Nat)(us:List Nat):List Nat:=(List.range n).map (dnM (uM us) n n)
theorem Sl8(g:Nat→Nat)(n:Nat):Sl 1 u8C ((List.range n).map g) (.sl true n (cells8 g n)):=by
 have hc:cells8 g n=(((List.range n).map g).map u8C).flatten:=by
  unfold cells8
  induction (List.range n) with
  | nil=>rfl
  | cons a l ih=>simp only[bS,dO,ih];rfl
 refine⟨fun r hr=>?_,.inr ⟨true,by rw[hc];simp⟩⟩
 obtain⟨x,_,rfl⟩:=cY.1 hr;rfl
theorem c51(n:Nat)(hd:Sl 1 fM ss d)(he:Sl 1 u8C us e)(hu:fY us)(hs:ss.length≤8)(hl:us.length=ss.length):
  cl (n+1) 51 [.agg [d,e]]=some (.sl true ss.length (cells8 (dnM (uM us) ss.length ss.length) ss.length),true):=by
 rw[iP 51 A51 B51,B51];have hmk:(0≤(ss.length:Int)∧(ss.length:Int)≤(ss.length:Int)∧((1:Nat):Int)*(ss.length:Int)≤1099511627776∧(ss.length:Int)≤4294967296)=True:=eq_true (by omega)
 simp only[z0,↓reduceIte,Nat.reduceEqDiff,Nat.reduceAdd,Nat.reduceLeDiff,reduceCtorEq,hd.len,he.len,hd.nag,he.nag,hmk,cQ,rep8];generalize hz:zloop KK _ _=rl
 refine zfor rl hz ss.length (dY (by omega)) (by omega) (fun i t s c=>sget s 0=some (.fix 26 [d,e])∧sget s 1=some (.fix 0 (cells8 (dnM (uM us) ss.length i) ss.length))∧tget t 1 = .ptr 0 0∧tget t 3 = .ms 1 0 1 ss.length ss.length) (by simp[aA]) (by simp[aA];rfl) ?_
 rintro i t s c hi ⟨s0,s1,h1,h3⟩ h4;by_cases zQ:i<ss.length
 ·simp only[z0,↓reduceIte,Nat.reduceEqDiff,Nat.reduceAdd,Nat.reduceLeDiff,reduceCtorEq,hd.len,he.len,h1,h3,h4,s0,s1,dH zQ];generalize Bz:zloop KK _ _=rl2
  refine zfor rl2 Bz ss.length (dY (by omega)) (by omega) (fun j t s c=>sget s 0=some (.fix 26 [d,e])∧sget s 1=some (.fix 0 (cells8 (fun b=>if b<j then dnM (uM us) ss.length (i+1) b else dnM (uM us) ss.length i b) ss.length))∧tget t 1 = .ptr 0 0∧tget t 3 = .ms 1 0 1 ss.length ss.length∧tget t 4 = .int .i64 (i:Nat)) (by simp[aA]) (by simp[aA,s0,s1,h1,h3,h4]) ?_
  rintro j t s c hj ⟨s0,s1,h1,h3,h4⟩ h5;by_cases Lc:j<ss.length
  ·have Vq:∀v,v=dnM (uM us) ss.length (i+1) j→(upd (fun b=>if b<j then dnM (uM us) ss.length (i+1) b else dnM (uM us) ss.length i b) j v)=fun b=>if b<j+1 then dnM (uM us) ss.length (i+1) b else dnM (uM us) ss.length i b:=fun v hv=>by
    grind [upd,e2]
   have g8:dnM (uM us) ss.length i j<256:=dnM_u8 _ (by omega)
   have Ir:=cells8_at (fun b=>if b<j then dnM (uM us) ss.length (i+1) b else dnM (uM us) ss.length i b) Lc
   simp only[Nat.lt_irrefl,iV]at Ir;cases Ce:(uM us i).testBit j
   ·have Ar:(fun b=>if b<j then dnM (uM us) ss.length (i+1) b else dnM (uM us) ss.length i b)=fun b=>if b<j+1 then dnM (uM us) ss.length (i+1) b else dnM (uM us) ss.length i b:=by
     rw[←Vq (dnM (uM us) ss.length (i+1) j) rfl]
     funext b
     simp only[upd];by_cases e1:b=j
     ·subst e1;rw[aS rfl,aG (Nat.lt_irrefl b)];simp only[dnM,Ce,Bool.false_and,cT,iV,Nat.or_zero]
     ·rw[aG e1]
    rw[Ar]at s1;simp only[z0,↓reduceIte,Nat.reduceEqDiff,Nat.reduceAdd,Nat.reduceLeDiff,reduceCtorEq,hd.len,he.len,hd.fz,he.fz,h1,h3,h4,h5,s0,dH Lc,aF 56,aJ,c56 n hd.nag he hu (show i<us.length by omega) j,Ce]
    grind
   ·have hv:(dnM (uM us) ss.length i j ||| 2 ^ i)=dnM (uM us) ss.length (i+1) j:=by simp only[dnM,Ce,Lc,aQ,Bool.and_true,if_true]
    have zZ:stB (.fix 0 (cells8 (fun b=>if b<j then dnM (uM us) ss.length (i+1) b else dnM (uM us) ss.length i b) ss.length)) j [.int .u8 ((dnM (uM us) ss.length i j ||| 2 ^ i:Nat):Int)] =
      some (.fix 0 (cells8 (fun b=>if b<j+1 then dnM (uM us) ss.length (i+1) b else dnM (uM us) ss.length i b) ss.length)):=by
     rw[stB_1 (by grind) rfl,cells8_set _ _ Lc,Vq _ hv]
    simp only[z1,↓reduceIte,Nat.reduceEqDiff,Nat.reduceAdd,Nat.reduceLeDiff,reduceCtorEq,hd.len,he.len,hd.fz,he.fz,h1,h3,h4,h5,s0,s1,dH Lc,aF 56,aJ,c56 n hd.nag he hu (show i<us.length by omega) j,Ce,
     dR,cN,fX,AOp.kd,eE,eY,eJ,dW,cC,dD,iJ,fB Lc,dS,Ir,one_u8 i (by omega),b_or_u8 g8 (vV (show i<8 by omega)),zZ,aO,aX]
    grind
  ·have hg:(fun b=>if b<j then dnM (uM us) ss.length (i+1) b else dnM (uM us) ss.length i b)=dnM (uM us) ss.length (i+1):=by
    funext b
    by_cases e2:b<j
    ·rw[aS e2]
    ·rw[aG e2];simp[dnM,show ¬b<ss.length by omega]
   rw[hg]at s1;simp only[z0,↓reduceIte,Nat.reduceEqDiff,Nat.reduceAdd,Nat.reduceLeDiff,reduceCtorEq,hd.len,he.len,h1,h3,h4,h5,s0,s1,gG (show ss.length≤j by omega)]
   grind
 ·have e1:i=ss.length:=by omega
  subst e1;simp only[z0,↓reduceIte,Nat.reduceEqDiff,Nat.reduceAdd,Nat.reduceLeDiff,reduceCtorEq,hd.len,he.len,h1,h3,h4,s0,s1,gG (aK ss.length),A51];have hf:frz true 20 s (.ms 1 0 1 ss.length ss.length)=some (.sl true ss.length (cells8 (dnM (uM us) ss.length ss.length) ss.length)):=by
   rw[mS,s1];simp only[wK,bM,dS,Nat.ble_self_eq_true,bG,gQ];rw[cS (by grind [wK]),frz_cells8,eQ]
   rfl
  grind [pout]
theorem b_shr_i64(b:Nat)(hx:x<9223372036854775808){j:IntKind}:kN .shr (.int .i64 (x:Int)) (.int j (b:Int))=some (.int .i64 ((x >>> b:Nat):Int)):=by
 rw[binD_shr];simp only[shD];rw[aG (by omega),cQ,show((2:Int) ^ (min b (IntKind.bits .i64)))=((2 ^ (min b 64):Nat):Int) by rw[Int.natCast_pow];rfl,fdiv_nat,shr_small b 64 (by omega)]
theorem kQ{y:Nat}(hx:x<9223372036854775808)(hy:y<9223372036854775808):kN .and (.int .i64 (x:Int)) (.int .i64 (y:Int))=some (.int .i64 ((x&&&y:Nat):Int)):=by
 have h:x&&&y<9223372036854775808:=Nat.lt_of_le_of_lt Nat.and_le_left hx;rw[vD _ _ _ (.inl rfl)];simp only[yX,BitVec.ofInt_natCast,BitVec.toNat_and,BitVec.toNat_ofNat];rw[Nat.mod_eq_of_lt (show x<2 ^ IntKind.bits .i64 from Nat.lt_trans hx (by decide)),Nat.mod_eq_of_lt (show y<2 ^ IntKind.bits .i64 from Nat.lt_trans hy (by decide)),xC (show _≤9223372036854775807 by omega)]
theorem shr_pos(x n:Nat):decide ((0:Int)<((x >>> n:Nat):Int)) = !(Nat.blt x (2 ^ n)):=by
 rw[Nat.shiftRight_eq_div_pow,fF,bZ,Bool.not_eq_true',←gI,Nat.blt_eq,Nat.not_lt];have h:=@Nat.div_pos_iff x (2 ^ n)
 grind
theorem all_i64:∀n:Nat,1≤n→n≤8→∃v,kN .shl (.int .i64 1) (.int .i64 (n:Int))=some (.int .i64 v)∧bX .i64 (v-1)=((2 ^ n-1:Nat):Int)
 | 1,_,_=>⟨_,rfl,rfl⟩
 | 2,_,_=>⟨_,rfl,rfl⟩
 | 3,_,_=>⟨_,rfl,rfl⟩
 | 4,_,_=>⟨_,rfl,rfl⟩
 | 5,_,_=>⟨_,rfl,rfl⟩
 | 6,_,_=>⟨_,rfl,rfl⟩
 | 7,_,_=>⟨_,rfl,rfl⟩
 | 8,_,_=>⟨_,rfl,rfl⟩
 | 0,h,_=>by omega
 | n+9,_,h=>by omega
theorem c103(n:Nat)(hd:Sl 1 fM ss d)(he:Sl 1 u8C us e)(hu:fY us)(hs:ss.length≤8)(hl:us.length=ss.length)(ha:a<ss.length):
  cl (n+1) 103 [.agg [d,e],.int .i64 (a:Int)]=some (.bool (mI ss.length (uM us) a),true):=by
 rw[kG 103 A103 B103,B103];have Fl:a<us.length:=by omega
 have hx:∀c (hc:c<us.length),us[c]=uM us c:=fun c hc=>(jK hc 0).symm
 have Dd:∀c,uM us c<9223372036854775808:=fun c=>Nat.lt_trans (kY hu c) (by omega)
 have hw:∀c,bX .i64 ((uM us c:Nat):Int)=((uM us c:Nat):Int):=fun c=>cL (by omega) (by grind)
 cases h1:Nat.blt (uM us a) (2 ^ ss.length)
 ·simp only[z0,seval,hd.len,he.len,hd.nag,he.nag,he.ia1 Fl,he.at1 Fl,u8C,hx _ Fl,hw,b_shr_i64 _ (Dd a),shr_pos,h1,A103];rw[mI,h1];rfl
 cases h2:(uM us a).testBit a
 ·simp only[z0,seval,hd.len,he.len,hd.nag,he.nag,he.ia1 Fl,he.at1 Fl,u8C,hx _ Fl,hw,b_shr_i64 _ (Dd a),shr_pos,h1,aF 56,aJ,hd.fz,he.fz,c56 n hd.nag he hu Fl a,h2,A103];rw[mI,h1,h2];rfl
 simp only[z0,seval,hd.len,he.len,hd.nag,he.nag,he.ia1 Fl,he.at1 Fl,u8C,hx _ Fl,hw,b_shr_i64 _ (Dd a),shr_pos,h1,aF 56,aJ,hd.fz,he.fz,c56 n hd.nag he hu Fl a,h2];generalize hz:zloop KK _ _=rl;obtain⟨v,Ds,hv2⟩:=all_i64 ss.length (by omega) hs
 have Aa:2 ^ ss.length-1<9223372036854775808:=by
  have:2 ^ ss.length≤2 ^ 8:=Nat.pow_le_pow_right (by omega) hs
  omega
 refine zfor rl hz ss.length (dY (by omega)) (by omega) (fun i t s c=>sget s 0=some (.fix 26 [d,e])∧tget t 2 = .ptr 0 0∧tget t 5 = .int .i64 (ss.length:Nat)∧tget t 6 = .int .i64 (uM us a:Nat)∧tget t 1 = .int .i64 (a:Nat)∧∀b,b<i→okA ss.length (uM us) a b=true) (by simp[aA]) (by simp[aA]) ?_
 rintro i t s c hi ⟨s0,q2,q5,q6,q1,Ot⟩ q7;by_cases zQ:i<ss.length
 ·have Bs:i<us.length:=by omega
  have Pj:uM us i&&&(2 ^ ss.length-1)<9223372036854775808:=Nat.lt_of_le_of_lt Nat.and_le_left (Dd i);have Bh:okA ss.length (uM us) a i=true→∀k,k<i+1→okA ss.length (uM us) a k=true:=fun h k hk=>by
   grind
  have Bl:okA ss.length (uM us) a i=false→mI ss.length (uM us) a=false:=fun h=>by
   grind [mI,oY]
  cases Cj:(uM us a).testBit i
  ·have h:okA ss.length (uM us) a i=true:=by rw[okA,Cj];rfl
   simp only[z1,seval,hd.len,he.len,hd.fz,he.fz,s0,q1,q2,q5,q6,q7,dH zQ,aF 56,aJ,c56 n hd.nag he hu Fl i,Cj]
   grind
  ·have Av:okA ss.length (uM us) a i=((Nat.beq i a || !(uM us i).testBit a)&&Nat.beq ((uM us i&&&(2 ^ ss.length-1))&&&uM us a) (uM us i&&&(2 ^ ss.length-1))):=by rw[okA,Cj];rfl
   have Ks:∀{x y:Nat},Nat.beq x y=true→decide (((x:Nat):Int)=(y:Nat))=true:=fun h=>by simp_all
   have hb6:∀{x y:Nat},Nat.beq x y=false→decide (((x:Nat):Int)=(y:Nat))=false:=fun {x y} h=>by
    rw[cD,Int.ofNat_inj];intro e;simp_all
   cases e3:Nat.beq ((uM us i&&&(2 ^ ss.length-1))&&&uM us a) (uM us i&&&(2 ^ ss.length-1))
   ·have hq:=hb6 e3;cases e1:Nat.beq i a
    ·have Hp:=hb6 e1;cases Bb:(uM us i).testBit a
     ·have h:okA ss.length (uM us) a i=false:=by rw[Av,e3,e1,Bb];rfl
      simp only[z1,seval,hd.len,he.len,hd.fz,he.fz,s0,q1,q2,q5,q6,q7,dH zQ,aF 56,aJ,c56 n hd.nag he hu Fl i,Cj,dR,cN,fX,AOp.kd,eE,fG,kZ,eY,eJ,dW,cC,dD,he.ia1 Bs,he.at1 Bs,u8C,hx _ Bs,hw,Ds,hv2,kQ (Dd i) Aa,kQ Pj (Dd a),c56 n hd.nag he hu Bs a,Bb,dJ,bN,Hp,hq,A103];rw[Bl h];rfl
     ·have h:okA ss.length (uM us) a i=false:=by rw[Av,e3,e1,Bb];rfl
      simp only[z1,seval,hd.len,he.len,hd.fz,he.fz,s0,q1,q2,q5,q6,q7,dH zQ,aF 56,aJ,c56 n hd.nag he hu Fl i,Cj,dR,cN,fX,AOp.kd,eE,fG,kZ,eY,eJ,dW,cC,dD,he.ia1 Bs,he.at1 Bs,u8C,hx _ Bs,hw,Ds,hv2,kQ (Dd i) Aa,kQ Pj (Dd a),c56 n hd.nag he hu Bs a,Bb,dJ,bN,Hp,hq,A103];rw[Bl h];rfl
    ·have Hp:=Ks e1;cases Bb:(uM us i).testBit a
     all_goals grind
   ·have hq:=Ks e3;cases e1:Nat.beq i a
    ·have Hp:=hb6 e1;cases Bb:(uM us i).testBit a
     ·have h:okA ss.length (uM us) a i=true:=by rw[Av,e3,e1,Bb];rfl
      simp only[z1,seval,hd.len,he.len,hd.fz,he.fz,s0,q1,q2,q5,q6,q7,dH zQ,aF 56,aJ,c56 n hd.nag he hu Fl i,Cj,dR,cN,fX,AOp.kd,eE,fG,kZ,eY,eJ,dW,cC,dD,he.ia1 Bs,he.at1 Bs,u8C,hx _ Bs,hw,Ds,hv2,kQ (Dd i) Aa,kQ Pj (Dd a),c56 n hd.nag he hu Bs a,Bb,dJ,bN,Hp,hq]
      grind
     ·have h:okA ss.length (uM us) a i=false:=by rw[Av,e3,e1,Bb];rfl
      simp only[z1,seval,hd.len,he.len,hd.fz,he.fz,s0,q1,q2,q5,q6,q7,dH zQ,aF 56,aJ,c56 n hd.nag he hu Fl i,Cj,dR,cN,fX,AOp.kd,eE,fG,kZ,eY,eJ,dW,cC,dD,he.ia1 Bs,he.at1 Bs,u8C,hx _ Bs,hw,Ds,hv2,kQ (Dd i) Aa,kQ Pj (Dd a),c56 n hd.nag he hu Bs a,Bb,dJ,bN,Hp,hq,A103];rw[Bl h];rfl
    ·have Hp:=Ks e1;cases Bb:(uM us i).testBit a
     ·simp_all
     ·have h:okA ss.length (uM us) a i=true:=by rw[Av,e3,e1,Bb];rfl
      simp only[z1,seval,hd.len,he.len,hd.fz,he.fz,s0,q1,q2,q5,q6,q7,dH zQ,aF 56,aJ,c56 n hd.nag he hu Fl i,Cj,dR,cN,fX,AOp.kd,eE,fG,kZ,eY,eJ,dW,cC,dD,he.ia1 Bs,he.at1 Bs,u8C,hx _ Bs,hw,Ds,hv2,kQ (Dd i) Aa,kQ Pj (Dd a),c56 n hd.nag he hu Bs a,Bb,dJ,bN,Hp,hq]
      grind
 ·simp only[z0,seval,hd.len,he.len,s0,q1,q2,q5,q6,q7,gG (show ss.length≤i by omega),A103]
  rw[mI,h1,h2,jI.2 fun k hk=>Ot k (by omega)];rfl
theorem nearD_congr{f g:Nat→Nat}(h:∀c,c<n→f c=g c)(ha:a<n)(hb:b<n):kL f n a b=kL g n a b:=by
 grind [kL,vY,kJ]
theorem down_uM(n:Nat)(us:List Nat)(h:i<n):uM (yR n us) i=dnM (uM us) n n i:=by
 show(yR n us).getD i 0=_
 grind [yR,jK]
theorem down_bytes(us:List Nat)(h:n≤8):fY (yR n us):=fun u hu=>by
 obtain⟨i,_,rfl⟩:=cY.1 hu;exact dnM_u8 i h
theorem yQ(n:Nat)(us:List Nat):(yR n us).length=n:=by simp[yR]
theorem c54(n:Nat)(hd:Sl 1 fM ss d)(he:Sl 1 u8C us e)(hu:fY us)(hs:oZ ss):cl (n+3) 54 [.agg [d,e]]=some (CHK ss us,true):=by
 rw[iP 54 A54 B54,B54];rcases mO ss with⟨h1,h2⟩|⟨h1,a,er,h2,h3⟩
 ·have hn:=oS.1 h1;by_cases hl:us.length=ss.length
  ·simp only[z0,seval,eq_true (show(((us.length:Nat):Int)=(ss.length:Nat)) by omega),dJ,eq_self,aM,aN,hd.len,he.len,hd.nag,he.nag,aF 102,aJ,hd.fz,c102 n hd hs,h2,dV]
   generalize hz:zloop KK _ _=rl;refine zfor rl hz ss.length (dY (by omega)) (by omega) (fun i t s c=>sget s 0=some (.fix 26 [d,e])∧tget t 1 = .ptr 0 0∧tget t 6 = .int .i64 (ss.length:Nat)∧∀j,j<i→sE ss.length (uM us) j=none) (by simp[aA]) (by simp[aA]) ?_
   rintro i t s c hi ⟨s0,q1,q6,hb⟩ q7;by_cases zQ:i<ss.length
   ·cases ho:mI ss.length (uM us) i
    ·simp only[z1,seval,hd.len,he.len,hd.fz,he.fz,s0,q1,q6,q7,dH zQ,aF 103,aJ,c103 (n+1) hd he hu hn.1.2 hl zQ,ho,A54];rw[CHK,aS h1,aS hl,ordD,eL zQ (by rw[sE,ho];rfl) hb];rfl
    ·simp only[z1,seval,hd.len,he.len,hd.fz,he.fz,s0,q1,q6,q7,dH zQ,aF 103,aJ,c103 (n+1) hd he hu hn.1.2 hl zQ,ho]
     grind [sE]
   ·have e1:i=ss.length:=by omega
    subst e1;have Su:CHK ss us=sF ss.length (uM us):=by grind [CHK,ordD,fL]
    rw[Su];simp only[z1,seval,hd.len,he.len,hd.fz,he.fz,s0,q1,q6,q7,gG (aK ss.length),aF 51,aJ,c51 (n+1) hd he hu hn.1.2 hl];generalize Bz:zloop KK _ _=rl2;have Wr:Sl 1 u8C (yR ss.length us) (.sl true ss.length (cells8 (dnM (uM us) ss.length ss.length) ss.length)):=Sl8 _ _
    generalize hdw:D.sl true ss.length (cells8 (dnM (uM us) ss.length ss.length) ss.length)=dw at Wr Bz;refine zfor rl2 Bz ss.length (dY (by omega)) (by omega) (fun i t s c=>sget s 0=some (.fix 26 [d,e])∧tget t 1 = .ptr 0 0∧tget t 6 = .int .i64 (ss.length:Nat)∧tget t 8=dw∧∀j,j<i→latP ss.length (uM us) j=none) (by simp[aA]) (by simp[aA,s0,q1,q6]) ?_
    rintro i t s c hi ⟨s0,q1,q6,q8,Bb⟩ q9;by_cases zQ:i<ss.length
    ·simp only[z0,seval,s0,q1,q6,q8,q9,dH zQ];generalize Lr:zloop KK _ _=rl3;refine zfor rl3 Lr ss.length (dY (by omega)) (by omega) (fun j t s c=>sget s 0=some (.fix 26 [d,e])∧tget t 1 = .ptr 0 0∧tget t 6 = .int .i64 (ss.length:Nat)∧tget t 8=dw∧tget t 9 = .int .i64 (i:Nat)∧∀k,k<j→lat2 ss.length (uM us) i k=true) (by simp[aA]) (by simp[aA,s0,q1,q6,q8,q9]) ?_
     rintro j t s c hj ⟨s0,q1,q6,q8,q9,Ot⟩ q10;by_cases Lc:j<ss.length
     ·have Bl:lat2 ss.length (uM us) i j=false→sF ss.length (uM us)=e2 i 4:=fun h=>by
       rw[sF,eL zQ (by rw[latP,latB,oY Lc h];rfl) Bb]
      have r1:=c52 (n+2) he hu (by omega) (show i<us.length by omega) (show j<us.length by omega)
      have r2:=c52 (n+2) Wr (down_bytes us hn.1.2) (by rw[yQ];omega) (show i<(yR ss.length us).length by rw[yQ];omega) (show j<(yR ss.length us).length by rw[yQ];omega)
      rw[hl]at r1;rw[yQ,nearD_congr (fun c hc=>down_uM _ us hc) zQ Lc]at r2
      cases Ey:decide (kL (uM us) ss.length i j<0)
      ·cases Eh:decide (kL (dnM (uM us) ss.length ss.length) ss.length i j<0)
       ·have h:lat2 ss.length (uM us) i j=true:=by rw[lat2,Ey,Eh];rfl
        simp only[z0,seval,s0,q1,q6,q8,q9,q10,dH Lc,aF 52,aJ,he.fz,Wr.fz,r1,r2,Ey,Eh]
        grind
       ·have h:lat2 ss.length (uM us) i j=false:=by rw[lat2,Ey,Eh];rfl
        simp only[z0,seval,s0,q1,q6,q8,q9,q10,dH Lc,aF 52,aJ,he.fz,Wr.fz,r1,r2,Ey,Eh,A54];rw[Bl h];rfl
      ·have h:lat2 ss.length (uM us) i j=false:=by rw[lat2,Ey];rfl
       simp only[z0,seval,s0,q1,q6,q8,q9,q10,dH Lc,aF 52,aJ,he.fz,Wr.fz,r1,r2,Ey,A54];rw[Bl h];rfl
     ·have hp:latP ss.length (uM us) i=none:=by rw[latP,latB,jI.2 fun k hk=>Ot k (by omega)];rfl
      simp only[z0,seval,s0,q1,q6,q8,q9,q10,gG (show ss.length≤j by omega)]
      grind
    ·have e1:i=ss.length:=by omega
     subst e1;simp only[z0,seval,s0,q1,q6,q8,q9,gG (aK ss.length),A54];rw[sF,fL Bb];rfl
  ·simp only[z0,seval,aL (show ¬(((us.length:Nat):Int)=(ss.length:Nat)) by omega),dJ,eq_self,aM,aN,hd.len,he.len,hd.nag,he.nag,aF 102,aJ,hd.fz,c102 n hd hs,h2,dV,A54]
   rw[CHK,aS h1,aG hl];rfl
 ·simp only[z0,seval,aL h3,dJ,aM,aN,hd.len,he.len,hd.nag,he.nag,aF 102,aJ,hd.fz,c102 n hd hs,h2,dV,A54];rw[CHK,aG (by grind),h2];rfl
-- without Oc a part of a row is
theorem ex_ls1:(∀(a:D) (l:List D),(a::l).length=l.length+1)∧(([]:List D).length=0)∧(∀(a v:D) (l:List D),(a::l).set 0 v=v::l)∧(∀(a v:D) (l:List D) (n:Nat),(a::l).set (n+1) v=a::l.set n v) ∧
  (∀(a:D) (l:List D),(a::l)[0]?=some a)∧(∀(a:D) (l:List D) (n:Nat),(a::l)[n+1]?=l[n]?)∧(∀(n:Nat),([]:List D)[n]?=none)∧(∀(a:D) (l:List D),(a::l).any eG=(eG a||l.any eG))∧(([]:List D).any eG=false) ∧
  (∀(l:List D),l.drop 0=l)∧(∀(a:D) (l:List D) (n:Nat),(a::l).drop (n+1)=l.drop n)∧(∀(l:List D),l.take 0=[])∧(∀(a:D) (l:List D) (n:Nat),(a::l).take (n+1)=a::l.take n)∧(∀(n:Nat),([]:List D).take n=[])∧(∀(n:Nat),([]:List D).drop n=[]) ∧
  (∀(G:List (Nat×List D)) (t:Tm),parts G t []=[])∧(∀(G:List (Nat×List D)) (t:Tm) (o n:Nat) (a:Arg) (l:List (Nat×Nat×Arg)),parts G t ((o,n,a)::l)=(o,n,a.ev G t)::parts G t l) ∧
  (∀(cs:List D),place cs []=some cs)∧(∀(cells:List D) (off n:Nat) (d:D) (r:List (Nat×Nat×D)),place cells ((off,n,d)::r)=(match d.cells? with
   | some cs=>bif Nat.beq cs.length n&&Nat.ble (off+n) cells.length then place (fJ cells off cs) r else none
   | none=>none)) ∧
  (∀(ty off:Nat) (cs vs:List D),stB (.fix ty cs) off vs=bif vs.any eG then none else bif Nat.ble (off+vs.length) cs.length then some (.fix ty (fJ cs off vs)) else none):=by
 refine⟨fun _ _=>rfl,rfl,fun _ _ _=>rfl,fun _ _ _ _=>rfl,fun _ _=>rfl,fun _ _ _=>rfl,fun _=>rfl,fun _ _=>rfl,rfl,fun _=>rfl,fun _ _ _=>rfl,fun _=>rfl,fun _ _ _=>rfl,fun _=>List.take_nil,fun _=>List.drop_nil,fun _ _=>rfl,fun _ _ _ _ _ _=>rfl,fun _=>rfl,fun _ _ _ _ _=>rfl,fun _ _ _ _=>rfl⟩
def kI(p:Int×Int):List D:=[.int .i64 p.1,.int .i64 p.2]
def wR(ss:List (List UInt8))(us:List Nat):Bool:=(List.range (min ss.length 30)).any (fun i=>decide (50<(ss.getD i []).length))||(decide (20<ss.length)||decide (20<us.length))
theorem z2:type_of% cI∧type_of% at_c∧type_of% exq∧type_of% ex_ls1∧type_of% exb∧type_of% Ab.abq:=⟨cI,at_c,exq,ex_ls1,exb,Ab.abq⟩
theorem c47(n:Nat)(hd:Sl 1 fM ss d)(he:Sl 1 u8C us e)(a:Int):
  cl n 47 [.agg [d,e],.int .i64 a]=some (.bool (decide (0≤a)&&decide (a<(ss.length:Int))),true):=by
 rw[kG 47 A47 B47,B47];cases h:decide (0≤a)
 ·simp only[z0,seval,hd.len,hd.nag,he.nag,h,A47];rfl
 ·simp only[z0,seval,hd.len,hd.nag,he.nag,h,A47];rfl
theorem c69(n:Nat)(he:Sl 1 u8C us e)(hl:us.length<9223372036854775807)(a b:Nat):
  cl n 69 [e,.int .u8 ((uM us a&&&uM us b:Nat):Int)]=some (.int .i64 (kL (uM us) us.length a b),true):=by
 rw[kG 69 A69 B69,B69];have hx:∀c (hc:c<us.length),us[c]=uM us c:=fun c hc=>(jK hc 0).symm
 simp only[z0,seval,he.len];generalize hz:zloop KK _ _=rl;refine zrange rl hz us.length (dY hl) hl (fun i t s c=>tget t 0=e∧tget t 1 = .int .u8 ((uM us a&&&uM us b:Nat):Int)∧∀j,j<i→kJ (uM us) a b j=none) (by decide) (by simp[aA]) (by simp[aA]) (by simp[aA]) ?_ ?_
 ·rintro i t s c hi ⟨q0,q1,hn⟩ Ag Ah;by_cases e1:uM us a&&&uM us b=uM us i
  ·have hp:kJ (uM us) a b i=some (i:Int):=by unfold kJ;rw[←e1,eQ];rfl
   simp only[z0,seval,q0,q1,Ag,Ah,he.ia1 hi,he.at1 hi,u8C,hx _ hi,oD,aH e1,A69];unfold kL;rw[eL hi hp hn];rfl
  ·have hp:kJ (uM us) a b i=none:=by unfold kJ;rw[jH (Ne.symm e1)];rfl
   simp only[z0,seval,q0,q1,Ag,Ah,he.ia1 hi,he.at1 hi,u8C,hx _ hi,oD,aE e1]
   grind
 ·rintro t s c ⟨q0,q1,hn⟩ Ag Ah;simp only[z0,seval,q0,q1,Ag,Ah,A69];unfold kL;rw[fL hn];rfl
def upD(us:List Nat)(a b:Nat):Int:=scan (kJ (uM us) a b) (a:Int) us.length 0
theorem c113(n:Nat)(hd:Sl 1 fM ss d)(he:Sl 1 u8C us e)(hu:fY us)(hl:us.length<9223372036854775807)(ha:a<us.length)(hb:b<us.length):
  cl n 113 [.agg [d,e],.int .i64 (a:Int),.int .i64 (b:Int)]=some (.int .i64 (upD us a b),true):=by
 rw[nY 113 A113 B113,B113];have hx:∀c (hc:c<us.length),us[c]=uM us c:=fun c hc=>(jK hc 0).symm
 simp only[z0,seval,hd.nag,he.nag];generalize hz:zloop KK _ _=rl;refine zfor rl hz us.length (dY hl) hl (fun i t s c=>sget s 0=some (.fix 26 [d,e])∧tget t 3 = .ptr 0 0∧tget t 1 = .int .i64 (a:Nat)∧tget t 2 = .int .i64 (b:Nat)∧∀j,j<i→kJ (uM us) a b j=none) (by simp[aA]) (by simp[aA]) ?_
 rintro i t s c hi ⟨s0,q3,q1,q2,hn⟩ q7;by_cases zQ:i<us.length
 ·by_cases e1:uM us i=uM us a&&&uM us b
  ·have hp:kJ (uM us) a b i=some (i:Int):=by unfold kJ;rw[e1,eQ];rfl
   simp only[z0,seval,he.len,s0,q1,q2,q3,q7,dH zQ,dR,cN,fX,AOp.kd,eE,fG,eY,eJ,dW,cC,dD,he.ia1 ha,he.at1 ha,he.ia1 hb,he.at1 hb,he.ia1 zQ,he.at1 zQ,u8C,hx _ ha,hx _ hb,hx _ zQ,iQ (kY hu a) (kY hu b),oD,aH e1,A113];unfold upD;rw[eL zQ hp hn];rfl
  ·have hp:kJ (uM us) a b i=none:=by unfold kJ;rw[jH e1];rfl
   simp only[z0,seval,he.len,s0,q1,q2,q3,q7,dH zQ,dR,cN,fX,AOp.kd,eE,fG,eY,eJ,dW,cC,dD,he.ia1 ha,he.at1 ha,he.ia1 hb,he.at1 hb,he.ia1 zQ,he.at1 zQ,u8C,hx _ ha,hx _ hb,hx _ zQ,iQ (kY hu a) (kY hu b),oD,aE e1]
   grind
 ·have e1:i=us.length:=by omega
  subst e1;simp only[z0,seval,he.len,s0,q1,q2,q3,q7,gG (aK us.length),A113];unfold upD;rw[fL hn];rfl
theorem cmp_site(p:Int×Int):oW (.ty (.parts [(0,none,.int),(1,none,.int)])) (.agg (kI p)) (.agg (kI p))=some true:=by
 simp[oW,eqT,uC,cX,kI]
theorem c33(n:Nat){l:List (Int×Int)}{a b:D}(ha:Sl 2 kI l a)(hb:Sl 2 kI l b)(hl:l.length<9223372036854775807):cl n 33 [a,b]=some (.bool true,true):=by
 rw[kG 33 A33 B33,B33];simp only[z0,seval];generalize hz:zloop KK _ _=rl;refine zfor rl hz l.length (dY hl) hl (fun i t s c=>tget t 0=a∧tget t 1=b) (by simp[aA]) (by simp[aA]) ?_
 rintro i t s c hi ⟨q0,q1⟩ q5;by_cases zQ:i<l.length
 ·have h0:=ha.row zQ;have h1:=hb.row zQ;simp only[z2,seval,q0,q1,q5,ha.len,hb.len,dH zQ,dR,cN,fX,AOp.kd,eE,fG,eY,eJ,dW,nV,cC,dD,ha.ia zQ,hb.ia zQ,h0,h1,cmp_site]
  grind
 ·simp only[z2,seval,q0,q1,q5,ha.len,hb.len,gG (show l.length≤i by omega),A33]
  rfl
def jS(l:List (Int×Int))(x:Int):Nat:=match l with
 | []=>0
 | p::r=>if p.1<x then jS r x+1 else 0
theorem putAt_le:∀(l:List (Int×Int)) (x:Int),jS l x≤l.length
 | [],x=>aK 0
 | p::r,x=>by
  unfold jS;split
  ·have:=putAt_le r x;simp only[aO];omega
  ·exact dM _
theorem putAt_lt:∀(l:List (Int×Int)) (x:Int) (j:Nat) (h:j<l.length),j<jS l x→l[j].1<x
 | p::r,x,0,h,hj=>by
  unfold jS at hj;split at hj
  ·assumption
  ·omega
 | p::r,x,j+1,h,hj=>by
  unfold jS at hj;split at hj
  ·simp only[List.getElem_cons_succ];exact putAt_lt r x j (by simpa using h) (by omega)
  ·omega
theorem putAt_ge:∀(l:List (Int×Int)) (x:Int) (h:jS l x<l.length),¬l[jS l x].1<x
 | p::r,x,h=>by
  by_cases hp:p.1<x
  ·have e:jS (p::r) x=jS r x+1:=by rw[jS,aS hp]
   have:=putAt_ge r x (by simp only[aO]at h;omega)
   simp only[e,List.getElem_cons_succ];exact this
  ·have e:jS (p::r) x=0:=by rw[jS,aG hp]
   simp only[e,List.getElem_cons_zero];exact hp
theorem putAt_uniq{l:List (Int×Int)}{x:Int}(hi:i≤l.length)(h1:∀j (h:j<l.length),j<i→l[j].1<x)(h2:∀h:i<l.length,¬l[i].1<x):i=jS l x:=by
 rcases Nat.lt_trichotomy i (jS l x) with h|h|h
 ·have:=putAt_le l x;exact absurd (putAt_lt l x i (by omega) h) (h2 (by omega))
 ·exact h
 ·have:jS l x<l.length:=by omega
  exact absurd (h1 _ this h) (putAt_ge l x this)
theorem c28(n:Nat)(hd:Sl 1 fM ss d)(he:Sl 1 u8C us e):
  cl n 28 [.agg [d,e]]=some (.bool (wR ss us),true):=by
 rw[iP 28 A28 B28,B28];simp only[z0,seval,hd.nag,he.nag];generalize hz:zloop KK _ _=rl;refine zfor rl hz (min ss.length 30) (dY (by omega)) (by omega) (fun i t s c=>sget s 0=some (.fix 26 [d,e])∧tget t 1 = .ptr 0 0∧∀j,j<i→decide (50<(ss.getD j []).length)=false) (by simp[aA]) (by simp[aA]) ?_
 rintro i t s c hi ⟨s0,q1,hn⟩ q3;by_cases zQ:i<min ss.length 30
 ·have Io:i<ss.length:=by omega
  have h30:decide ((i:Int)<30)=true:=by rw[bZ];omega
  cases Xa:decide ((50:Int)<((ss[i]).length:Int))
  ·have h:decide (50<(ss.getD i []).length)=false:=by rw[jK Io];rw[cD]at Xa ⊢;omega
   simp only[z0,seval,s0,q1,q3,hd.len,dH Io,h30,hd.ia1 Io,hd.at1 Io,fM,Xa];refine⟨zQ,trivial,trivial,trivial,trivial,trivial,fun j hj=>?_⟩
   rcases iI.1 hj with h1|rfl
   ·exact hn j h1
   ·exact h
  ·have h:decide (50<(ss.getD i []).length)=true:=by rw[jK Io];rw[bZ]at Xa ⊢;omega
   simp only[z0,seval,s0,q1,q3,hd.len,dH Io,h30,hd.ia1 Io,hd.at1 Io,fM,Xa,A28];have:wR ss us=true:=by
    rw[wR,List.any_eq_true.2 ⟨i,List.mem_range.2 zQ,h⟩];rfl
   rw[this];rfl
 ·have e1:i=min ss.length 30:=by omega
  have Mw:(List.range (min ss.length 30)).any (fun i=>decide (50<(ss.getD i []).length))=false:=by
   rw[List.any_eq_false];intro j hj;rw[hn j (by rw[e1];exact List.mem_range.1 hj)];decide
  have Qg:decide ((i:Int)<(ss.length:Int))=false∨(decide ((i:Int)<(ss.length:Int))=true∧decide ((i:Int)<30)=false):=by
   by_cases h:i<ss.length
   ·exact .inr ⟨dH h,by rw[cD];omega⟩
   ·exact .inl (gG (by omega))
  have Pk:decide ((20:Int)<(ss.length:Int))=decide (20<ss.length):=by rw[fF,bZ,bZ];omega
  have Zb:decide ((20:Int)<(us.length:Int))=decide (20<us.length):=by rw[fF,bZ,bZ];omega
  rw[wR,Mw,Bool.false_or];cases Bq:decide (20<ss.length)
  ·rcases Qg with hs|⟨hs,Az⟩
   ·simp only[z0,seval,s0,q1,q3,hd.len,he.len,hs,Pk,Zb,Bq,A28];rfl
   ·simp only[z0,seval,s0,q1,q3,hd.len,he.len,hs,Az,Pk,Zb,Bq,A28];rfl
  ·rcases Qg with hs|⟨hs,Az⟩
   ·simp only[z0,seval,s0,q1,q3,hd.len,he.len,hs,Pk,Zb,Bq,A28];rfl
   ·simp only[z0,seval,s0,q1,q3,hd.len,he.len,hs,Az,Pk,Zb,Bq,A28];rfl
theorem dT{p:Prop}[Decidable p](h:p):decide p=true:=aH h
theorem dF{p:Prop}[Decidable p](h:¬p):decide p=false:=aE h
theorem mU{a e a' e':Int}(h:e2 a e=e2 a' e'):a=a'∧e=e':=by
 grind [e2]
theorem dL(z:D):(xP 1000 z z||@decide (z=z) (Classical.propDecidable _))=true:=by simp
theorem latD_good{u:Nat→Nat}(h:sF n u=e2 0 0):∀a,a<n→∀b,b<n→lat2 n u a b=true:=by
 unfold sF at h;rcases eX (latP n u) (e2 0 0) n 0 with⟨hb,_⟩|⟨m,r,_,h2,h3,_,h5⟩
 all_goals grind [latP,latB,jI,absurd,mU]
theorem CHK_lat(h:CHK ss us=e2 0 0):sF ss.length (uM us)=e2 0 0:=by
 have h0:=h;unfold CHK at h;rcases mO ss with⟨h1,h2⟩|⟨h1,a,er,h2,h3⟩
 ·rw[aS h1]at h;by_cases hl:us.length=ss.length
  ·rw[aS hl]at h;unfold ordD at h;rcases eX (sE ss.length (uM us)) (sF ss.length (uM us)) ss.length 0 with⟨hb,h'⟩|⟨m,r,_,h2,h3,_,h5⟩
   all_goals grind [sE,mI,uM,absurd,mU]
  grind [absurd,mU]
 grind [absurd,mU]
theorem near_nat(h:CHK ss us=e2 0 0)(ha:a<ss.length)(hb:b<ss.length):∃k:Nat,kL (uM us) ss.length a b=k∧k<ss.length:=by
 have h1:=latD_good (CHK_lat h) a ha b hb;unfold lat2 at h1;simp only[bW,Bool.not_eq_true',cD]at h1
 grind [kL,eX,kJ,uM,absurd]
theorem upD_near(h:CHK ss us=e2 0 0)(hl:us.length=ss.length)(ha:a<ss.length)(hb:b<ss.length):upD us a b=kL (uM us) ss.length a b:=by
 obtain⟨k,hk,_⟩:=near_nat h ha hb
 grind [upD,kL,eX,kJ,uM,eL]
/-! Sites in a map. -/
def mpE:Nat→List (Int×Int)→List vI
 | _,[]=>[]
 | k,p::r=>(.int .i64 p.1,.int .i64 p.2,k)::mpE (k+1) r
def qI:List (Int×Int)→Int→Nat→Option (Nat×Int)
 | [],_,_=>none
 | p::r,x,n=>if x=p.1 then some (n,p.2) else qI r x (n+1)
def setM:List (Int×Int)→Nat→Int→List (Int×Int)
 | [],_,_=>[]
 | p::r,0,v=>(p.1,v)::r
 | p::r,n+1,v=>p::setM r n v
theorem mfind_mpE(x:Int):∀(l:List (Int×Int)) (k n:Nat),mfind .int (.int .i64 x) (mpE k l) n=some ((qI l x n).map fun q=>(q.1,.int .i64 q.2))
 | [],k,n=>rfl
 | p::r,k,n=>by
  have h:keyEq .int (.int .i64 x) (.int .i64 p.1)=some (decide (x=p.1)):=by
   show(if IntKind.i64=IntKind.i64 then some (x==p.1) else none)=_
   rw[aS rfl];congr 1
  simp only[mpE,mfind,h,qI];by_cases e:x=p.1
  ·grind
  ·rw[aG e,aE e];exact mfind_mpE x r (k+1) (n+1)
theorem mset_mpE:∀(l:List (Int×Int)) (k j:Nat) (v:Int),mset (mpE k l) j (.int .i64 v)=mpE k (setM l j v)
 | [],_,_,_=>rfl
 | p::r,k,0,v=>rfl
 | p::r,k,j+1,v=>by simp only[mpE,mset,setM,mset_mpE r]
theorem mpE_snoc:∀(l:List (Int×Int)) (k:Nat) (p:Int×Int),mpE k l++[(.int .i64 p.1,.int .i64 p.2,k+l.length)]=mpE k (l++[p])
 | [],k,p=>rfl
 | q::r,k,p=>by
  simp only[mpE,cA,aO];rw[show k+(r.length+1)=k+1+r.length by omega,mpE_snoc r (k+1) p]
theorem mpE_len:∀(l:List (Int×Int)) (k:Nat),(mpE k l).length=l.length
 | [],_=>rfl
 | p::r,k=>by simp only[mpE,aO,mpE_len r]
theorem setM_len:∀(l:List (Int×Int)) (j:Nat) (v:Int),(setM l j v).length=l.length
 | [],_,_=>rfl
 | p::r,0,v=>rfl
 | p::r,j+1,v=>by simp only[setM,aO,setM_len r]
theorem setM_keys:∀(l:List (Int×Int)) (j:Nat) (v:Int),(setM l j v).map Prod.fst=l.map Prod.fst
 | [],_,_=>rfl
 | p::r,0,v=>rfl
 | p::r,j+1,v=>by simp only[setM,bS,setM_keys r]
theorem posM_none:∀{l:List (Int×Int)} {x:Int} {n:Nat},qI l x n=none→x∉l.map Prod.fst
 | [],_,_,_=>by simp
 | p::r,x,n,h=>by
  unfold qI at h;split at h
  ·cases h
  ·rename_i An;rw[bS,cH,not_or];exact⟨An,posM_none h⟩
theorem mpE_borns:∀(l:List (Int×Int)) (k:Nat),borns (mpE k l)=(List.range l.length).map (· + k)
 | [],_=>rfl
 | p::r,k=>by
  have ih:=mpE_borns r (k+1);unfold borns at ih ⊢;simp only[mpE,bS,ih,aO,List.range_succ_eq_map,List.map_map,bM]
  congr 1
  grind [List.map_congr_left]
theorem mpE_nodup(l:List (Int×Int)):(borns (mpE 0 l)).Nodup:=by
 grind [mpE_borns,List.map_id',List.nodup_range]
theorem mpE_lt(l:List (Int×Int)):∀e∈mpE 0 l,e.2.2<l.length:=fun e he=>by
 grind [borns,mpE,List.mem_map_of_mem,mpE_borns]
def popT:List UInt8:=[0,1,1,2,1,2,2,3,1,2,2,3,2,3,3,4,1,2,2,3,2,3,3,4,2,3,3,4,3,4,4,5,1,2,2,3,2,3,3,4,2,3,3,4,3,4,4,5,2,3,3,4,3,4,4,5,3,4,4,5,4,5,5,6,1,2,2,3,2,3,3,4,2,3,3,4,3,4,4,5,2,3,3,4,3,4,4,5,3,4,4,5,4,5,5,6,2,3,3,4,3,4,4,5,3,4,4,5,4,5,5,6,3,4,4,5,4,5,5,6,4,5,5,6,5,6,6,7,1,2,2,3,2,3,3,4,2,3,3,4,3,4,4,5,2,3,3,4,3,4,4,5,3,4,4,5,4,5,5,6,2,3,3,4,3,4,4,5,3,4,4,5,4,5,5,6,3,4,4,5,4,5,5,6,4,5,5,6,5,6,6,7,2,3,3,4,3,4,4,5,3,4,4,5,4,5,5,6,3,4,4,5,4,5,5,6,4,5,5,6,5,6,6,7,3,4,4,5,4,5,5,6,4,5,5,6,5,6,6,7,4,5,5,6,5,6,6,7,5,6,6,7,6,7,7,8]
def pop(u:Nat):Nat:=(popT.getD u 0).toNat
theorem c124(n:Nat){u:Nat}(hu:u<256):cl n 124 [.int .u8 (u:Int)]=some (.int .i64 (pop u:Nat),true):=by
 rw[iP 124 A124 B124];have hl:u<popT.length:=hu;simp only[B124,cI];have hi:iF popT.length (.int .u8 (u:Int))=some u:=fB hl;have hg:popT[u]?=some popT[u]:=aI hl;have hp:pop u=popT[u].toNat:=by rw[pop,jK hl]
 have hb:=popT[u].toNat_lt
 rw[show(D.str [0,1,1,2,1,2,2,3,1,2,2,3,2,3,3,4,1,2,2,3,2,3,3,4,2,3,3,4,3,4,4,5,1,2,2,3,2,3,3,4,2,3,3,4,3,4,4,5,2,3,3,4,3,4,4,5,3,4,4,5,4,5,5,6,1,2,2,3,2,3,3,4,2,3,3,4,3,4,4,5,2,3,3,4,3,4,4,5,3,4,4,5,4,5,5,6,2,3,3,4,3,4,4,5,3,4,4,5,4,5,5,6,3,4,4,5,4,5,5,6,4,5,5,6,5,6,6,7,1,2,2,3,2,3,3,4,2,3,3,4,3,4,4,5,2,3,3,4,3,4,4,5,3,4,4,5,4,5,5,6,2,3,3,4,3,4,4,5,3,4,4,5,4,5,5,6,3,4,4,5,4,5,5,6,4,5,5,6,5,6,6,7,2,3,3,4,3,4,4,5,3,4,4,5,4,5,5,6,3,4,4,5,4,5,5,6,4,5,5,6,5,6,6,7,3,4,4,5,4,5,5,6,4,5,5,6,5,6,6,7,4,5,5,6,5,6,6,7,5,6,6,7,6,7,7,8])=D.str popT from rfl]
 simp only[z0,seval,hi,hg,cL (show -9223372036854775808≤(popT[u].toNat:Int) by omega) (by omega),A124]
 rw[hp];rfl
def lowP(us:List Nat)(i:Nat):Option Int:=if us.getD i 0=2 ^ us.length-1 then some (i:Int) else none
def gY(us:List Nat):Int:=scan (lowP us) 0 us.length 0
theorem c100(n:Nat)(hd:Sl 1 fM ss d)(he:Sl 1 u8C us e)(hu:fY us)(h1:1≤us.length)(h8:us.length≤8):cl n 100 [.agg [d,e]]=some (.int .i64 (gY us),true):=by
 rw[iP 100 A100 B100,B100];obtain⟨v,hv,hw⟩:=all_i64 us.length h1 h8;simp only[z0,seval,hd.nag,he.nag];generalize hz:zloop KK _ _=rl;refine zfor rl hz us.length (dY (by omega)) (by omega) (fun i t s c=>sget s 0=some (.fix 26 [d,e])∧tget t 1 = .ptr 0 0∧∀j,j<i→lowP us j=none) (by simp[aA]) (by simp[aA]) ?_
 rintro i t s c hi ⟨s0,q1,hn⟩ q3;by_cases zQ:i<us.length
 ·have hx:=hu _ (bQ zQ);have hwi:bX .i64 (us[i]:Int)=us[i]:=cL (by omega) (by omega)
  by_cases hq:us[i]=2 ^ us.length-1
  ·have hp:lowP us i=some (i:Int):=by rw[lowP,jK zQ,aS hq]
   simp only[z2,seval,s0,q1,q3,he.len,dH zQ,dR,cN,fX,iY,AOp.kd,eE,fQ,fG,eY,eJ,dW,jO,kZ,pW,cC,dD,he.ia1 zQ,he.at1 zQ,u8C,aV,hwi,hv,hw,show decide ((us[i]:Int)=((2 ^ us.length-1:Nat):Int))=true from aH (by omega),A100]
   rw[gY,eL zQ hp hn];rfl
  ·have hp:lowP us i=none:=by rw[lowP,jK zQ,aG hq]
   simp only[z2,seval,s0,q1,q3,he.len,dH zQ,dR,cN,fX,iY,AOp.kd,eE,fQ,fG,eY,eJ,dW,jO,kZ,pW,cC,dD,he.ia1 zQ,he.at1 zQ,u8C,aV,hwi,hv,hw,show decide ((us[i]:Int)=((2 ^ us.length-1:Nat):Int))=false from aE (by omega)]
   grind
 ·simp only[z2,seval,s0,q1,q3,he.len,gG (show us.length≤i by omega),A100]
  rw[gY,fL fun j hj=>hn j (by omega)];rfl
def endP(f:Nat→Nat)(n i:Nat):Option Int:=if n≤i+1∨n≤pop (f i) then some (i:Int) else none
def endI(f:Nat→Nat)(n:Nat):Int:=scan (endP f n) 0 n 0
theorem c82(n:Nat){f:Nat→Nat}(hf:∀i,f i<256){k:Nat}(h1:1≤k)(h8:k≤8):cl (n+1) 82 [.agg (row8 f),.int .i64 (k:Nat)]=some (.int .i64 (endI f k),true):=by
 rw[kG 82 A82 B82,B82];have Bv:bX .i64 ((k:Int)-1)=((k-1:Nat):Int):=by rw[cL (by omega) (by omega)];omega
 have Jo:eG (D.agg (row8 f))=true:=rfl;simp only[z1,seval];generalize hz:zloop KK _ _=rl;refine zwhile rl hz k (dY (by omega)) (fun i z=>∃t s c,z=⟨t,s,c,[],none⟩∧sget s 0=some (.fix 141 (row8 f))∧tget t 1 = .int .i64 (k:Nat)∧tget t 2 = .ptr 0 0∧tget t 5 = .int .i64 (i:Nat)∧i<k∧∀j,j<i→endP f k j=none)
  ⟨_,_,_,rfl,by simp[aA],by simp[aA],by simp[aA],by simp[aA],h1,nofun⟩ ?_
 rintro i z hi ⟨t,s,c,rfl,s0,q1,q2,q5,hik,hn⟩;have zW:=rE f (k:=i) (by omega)
 have Vz:iF 8 (.int .i64 (i:Int))=some i:=fB (by omega)
 by_cases Cw:k≤i+1
 ·have hp:endP f k i=some (i:Int):=by rw[endP,aS (.inl Cw)]
  simp only[z1,seval,q1,q2,q5,Bv,show decide ((i:Int)<((k-1:Nat):Int))=false from aE (by omega),A82]
  rw[endI,eL hik hp hn];rfl
 ·have Xh:=c124 n (hf i);by_cases hq:k≤pop (f i)
  ·have hp:endP f k i=some (i:Int):=by rw[endP,aS (.inr hq)]
   simp only[z1,seval,q1,q2,q5,s0,Bv,Vz,zW,dS,bM,show decide ((i:Int)<((k-1:Nat):Int))=true from aH (by omega),aF 124,aJ,Xh,show decide (((pop (f i):Nat):Int)<(k:Int))=false from aE (by omega),A82]
   rw[endI,eL hik hp hn];rfl
  ·have hp:endP f k i=none:=by rw[endP,aG (fun h=>h.elim Cw hq)]
   simp only[z1,seval,q1,q2,q5,s0,Bv,Vz,zW,dS,bM,show decide ((i:Int)<((k-1:Nat):Int))=true from aH (by omega),aF 124,aJ,Xh,show decide (((pop (f i):Nat):Int)<(k:Int))=true from aH (by omega),gW (show i<9223372036854775807 by omega)]
   exact⟨by omega,_,_,_,rfl,s0,by simp[aA,q1],by simp[aA,q2],by simp[aA],by omega,kP hn hp⟩
theorem c80(n:Nat)(hd:Sl 1 fM ss d)(he:Sl 1 u8C us e)(hu:fY us)(hs:oZ ss){x er:Int}(hC:CHK ss us=e2 x er):cl (n+6) 80 [.iptr [d,e] 0,.nils]=some (.int .i64 er,true):=by
 rw[kG 80 A80 B80,B80];have zY:cX [d,e] 0 (some 2)=some (.agg [d,e]):=rfl;have En:=c59 n hd he hu hs;rw[hC]at En;by_cases h0:er=0
 ·subst h0;simp only[z2,seval,zY,aF 59,aJ,hd.fz,he.fz,En,dV,dJ,aM,aP,eq_self,show lenD false .nils=some 0 from rfl]
  generalize hz:zloop KK _ _=rl;refine zrange rl hz 0 (dY (by decide)) (by decide) (fun i t s c=>True) (by decide) (by simp[aA]) (by simp[aA]) trivial (fun i t s c hi=>absurd hi (by omega)) ?_
  rintro t s c _ Ag Ah;simp only[z2,seval,Ag,Ah,A80];rfl
 ·simp only[z2,seval,zY,aF 59,aJ,hd.fz,he.fz,En,dV,dJ,aL h0,aN,aQ,A80];rfl
theorem c43(n:Nat)(hd:Sl 1 fM ss d)(he:Sl 1 u8C us e)(hu:fY us)(hs:oZ ss)(hC:CHK ss us=e2 0 0)(Cs:us.length=ss.length)(h1:1≤ss.length)(h8:ss.length≤8):cl (n+7) 43 [.agg [d,e]]=some (e2 (endI (uM us) ss.length) 0,true):=by
 rw[iP 43 A43 B43,B43];have Yy:=c80 n hd he hu hs hC;have h81:=c81 (n+6) hd he hu h8 (by omega)
 have h82:=c82 (n+5) (kY hu) h1 h8;have zY:cX (ord17 ss.length (uM us) (dnM (uM us) ss.length us.length)) 1 (some 8)=some (.agg (row8 (uM us))):=rfl;have h0:(ord17 ss.length (uM us) (dnM (uM us) ss.length us.length))[0]?=some (.int .i64 (ss.length:Nat)):=rfl
 simp only[z2,seval,hd.nag,he.nag,aF 80,aF 81,aF 82,aJ,hd.fz,he.fz,Yy,h81,h82,zY,h0,dJ,aM,aP,eq_self,ord17_len,ord17_st _ _ _ [_,_,_,_,_,_,_,_,_,_,_,_,_,_,_,_,_] rfl,yJ,bR,bE,A43];rfl
theorem c68(n:Nat)(Ja:eG d=false)(Hu:∀k s,frz false (k+1) s d=some d)(he:Sl 1 u8C us e)(hu:fY us)(ha:a<us.length)(b:Nat)(hb:b<9223372036854775807){r:Bool} 
  (Di:cl n 56 [.agg [d,e],.int .i64 (a:Nat),.int .i64 (b:Nat)]=some (.bool r,true)):cl (n+1) 68 [.agg [d,e],.int .i64 (a:Nat),.int .i64 (b:Nat)]=some (.bool r,true):=by
 rw[nY 68 A68 B68,B68];have zY:cX [d,e] 0 (some 2)=some (.agg [d,e]):=rfl;simp only[z2,seval,Ja,he.nag,zY,aF 56,aJ,Hu,he.fz,Di,A68];rfl
theorem c74(n:Nat)(hd:Sl 1 fM ss d)(Sk:eG e=false)(b a:Int):cl n 74 [.agg [d,e,.int .i64 b],.int .i64 a]=some (.bool (decide (0≤a)&&decide (a<(ss.length:Int))),true):=by
 rw[kG 74 A74 B74,B74];cases h1:decide (0≤a)
 ·simp only[z0,seval,hd.nag,Sk,h1,A74];rfl
 ·simp only[z0,seval,hd.nag,Sk,h1,hd.len,A74];rfl
theorem c72(n:Nat)(hd:Sl 1 fM ss d)(he:Sl 1 u8C us e)(hu:fY us)(hs:oZ ss)(hC:CHK ss us=e2 0 0)(Cs:us.length=ss.length)(h1:1≤ss.length)(h8:ss.length≤8):∃f,cl (n+8) 72 [.agg [d,e]]=some (.tup [.agg [d,e,.int .i64 (endI (uM us) ss.length)],.int .i64 0],f):=by
 rw[iP 72 A72 B72,B72];have zY:cX [d,e] 0 (some 2)=some (.agg [d,e]):=rfl;have En:=c59 (n+2) hd he hu hs;rw[hC]at En;have Ew:=c43 n hd he hu hs hC Cs h1 h8;simp only[z0,seval,hd.nag,he.nag,zY,aF 59,aF 43,aJ,hd.fz,he.fz,En,Ew,dV,dJ,aM,aP,eq_self,A72];rcases hd.2 with⟨rfl,_⟩|⟨ex,rfl⟩<;>rcases he.2 with⟨rfl,_⟩|⟨ex',rfl⟩<;>exact⟨_,rfl⟩
theorem c116(n:Nat)(Ja:eG d=false)(he:Sl 1 u8C us e)(hu:fY us)(b0:Int)(ha:a<us.length)(b:Nat):cl n 116 [.agg [d,e,.int .i64 b0],.int .i64 (a:Nat),.int .i64 (b:Nat)]=some (.bool ((uM us a).testBit b),true):=by
 rw[nY 116 A116 B116,B116];have hx:us[a]=uM us a:=(jK ha 0).symm;have zQ:uM us a >>> b<256:=Nat.lt_of_le_of_lt (Nat.shiftRight_le _ _) (kY hu a);have hand:kN .and (.int .u8 ((uM us a >>> b:Nat):Int)) (.int .u8 1)=some (.int .u8 ((uM us a >>> b&&&1:Nat):Int)):=iQ (y:=1) zQ (by decide)
 have Ce:decide (((uM us a >>> b&&&1:Nat):Int)=1)=(uM us a).testBit b:=by
  rw[Nat.testBit_eq_decide_div_mod_eq,Nat.and_one_is_mod,Nat.shiftRight_eq_div_pow,fF,bZ,bZ];omega
 simp only[z0,seval,Ja,he.nag,he.ia1 ha,he.at1 ha,u8C,aV,hx,iC b (kY hu a),hand,Ce,A116];rfl
end
end Zv
