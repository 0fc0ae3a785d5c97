/- What functions come to: names by the program. Conditions: none. -/
import Derived.Test.YtnpoohbeicakkaaGreatDoorZAP
set_option linter.unusedVariables false
set_option linter.unusedSimpArgs false
set_option maxRecDepth 100000
set_option linter.unnecessarySimpa false
namespace Zv
open Go
noncomputable section
theorem c111(n:Nat)(s:List UInt8)(hs:s.length<9223372036854775807):cl (n+7) 111 [.agg [.int .i64 1,.int .i64 0,.int .i64 0,.int .i64 0,.str s]]=some (.int .i64 (wordE s),true):=by
 rw[cN (A:=A111) rfl (n+7) _ rfl,show A111.body=B111 from rfl]
 simp only[B111,Ab.abq];have h16:decide ((16:Int)<(s.length:Int))=decide (16<s.length):=by rw[dA,cI,cI];omega
 have htk:dH [.int .i64 1,.int .i64 0,.int .i64 0,.int .i64 0,.str s] 0 (some 5)=some (.agg [.int .i64 1,.int .i64 0,.int .i64 0,.int .i64 0,.str s]):=rfl
 have hcmp:pI (.ty (.parts [(0,none,.int),(1,none,.int),(2,none,.int),(3,none,.int),(4,none,.str)])) (.agg [.int .i64 1,.int .i64 0,.int .i64 0,.int .i64 0,.str s]) (.agg [.int .i64 1,.int .i64 0,.int .i64 0,.int .i64 0,.str s])=some true:=by
  simp[pI,eqT,uD,dH]
 simp only[z2,↓reduceIte,Nat.reduceEqDiff,Nat.reduceAdd,Nat.reduceLeDiff,reduceCtorEq,Int.reduceLT,Int.reduceLE,Int.reduceEq,eL,aY,aZ,aR,bD,htk,hcmp,bO,dU,cP,iH,nY,AOp.kd,fU,iM,iA,fV,eS,lP,dE,eO];generalize hS:sadd _ 2 _=S
 have hm:sget S 2=some (.fix 222 [.str s,.int .i64 0]):=by rw[←hS];simp[aE]
 have s0:sget S 0=some (.fix 174 [.int .i64 1,.int .i64 0,.int .i64 0,.int .i64 0,.str s]):=by rw[←hS];simp[aE]
 clear hS;obtain⟨v,hv1,hv2⟩:=f156 n 4094 (c:=3+10) hm (dD _);have hv1':fn (n+7) 4096 (.fn 156) [.ptr 2 0,.int .i64 0] S (3+10) = .ok (.ret (.int .i64 v)) S (3+10):=hv1;have hw0:wordB s=(decide (v=8)&&s.all alnum):=by
  rw[hv2.1];cases s with
  | nil=>rfl
  | cons b r=>rfl
 cases h8:decide (v=8)
 ·have hw:wordB s=false:=by rw[hw0,h8];rfl
  simp only[z2,↓reduceIte,Nat.reduceEqDiff,Nat.reduceAdd,Nat.reduceLeDiff,reduceCtorEq,aV,bU,hv1',eL,cF,h8,dU,cP,iH,nY,AOp.kd,fU,iM,iA,fV,eS,lP,dE,eO,A111];rw[wordE,hw];rfl
 ·obtain⟨k,S',c',hk,hka,h157,hc',hfr⟩:=f157 n 4093 (c:=3+10) hm hs;have h157':fn (n+7) 4096 (.fn 157) [.ptr 2 0,.int .i64 8,.int .i64 6] S (3+10) = .ok (.ret (.str (s.take k))) S' c':=h157;have s0':sget S' 0=some (.fix 174 [.int .i64 1,.int .i64 0,.int .i64 0,.int .i64 0,.str s]):=by rw[hfr 0 (by omega)];exact s0
  have hw:wordB s=s.all alnum:=by rw[hw0,h8,Bool.true_and]
  cases ha:s.all alnum
  ·have hne:(s.take k=s)=False:=aL fun h=>by
    have:=congrArg List.length h;rw[dM]at this;rw[hka.1 (by omega)]at ha;cases ha
   simp only[z2,↓reduceIte,Nat.reduceEqDiff,Nat.reduceAdd,Nat.reduceLeDiff,reduceCtorEq,aV,bU,hv1',h157',s0,s0',hne,eL,cF,h8,dU,cP,iH,nY,AOp.kd,fU,iM,iA,fV,eS,lP,dE,List.take_succ_cons,eO,List.all_cons,bV,dO,A111];rw[wordE,hw,ha];rfl
  ·have hke:s.take k=s:=by rw[hka.2 ha,List.take_length]
   cases hl:decide (16<s.length)
   ·simp only[z2,↓reduceIte,Nat.reduceEqDiff,Nat.reduceAdd,Nat.reduceLeDiff,reduceCtorEq,aV,bU,hv1',h157',s0,s0',hke,eL,cF,h8,dU,cP,iH,nY,AOp.kd,fU,iM,iA,fV,eS,lP,dE,List.take_succ_cons,eO,List.all_cons,bV,dO,h16,hl,A111];rw[wordE,hw,ha,hl];rfl
   ·simp only[z2,↓reduceIte,Nat.reduceEqDiff,Nat.reduceAdd,Nat.reduceLeDiff,reduceCtorEq,aV,bU,hv1',h157',s0,s0',hke,eL,cF,h8,dU,cP,iH,nY,AOp.kd,fU,iM,iA,fV,eS,lP,dE,List.take_succ_cons,eO,List.all_cons,bV,dO,h16,hl,A111];rw[wordE,hw,ha,hl];rfl
theorem tab_ag:(tabL.all fun r=>(!eP r.2.1&&(!eP r.2.2.1&&(!eP r.2.2.2.1 && !eP r.2.2.2.2))))=true:=by kernel_rfl
theorem c110(n:Nat)(s:List UInt8):cl (n+2) 110 [.str s]=some (findD s,true):=by
 rw[cN (A:=A110) rfl (n+2) _ rfl,show A110.body=B110 from rfl]
 simp only[B110,Ab.abq];have hd:=tab_sl;have hlen:lenD false (.sl true 41 tabC)=some 41:=rfl;simp only[z2,↓reduceIte,Nat.reduceEqDiff,Nat.reduceAdd,Nat.reduceLeDiff,reduceCtorEq,aF (f:=155) rfl,aQ,c155,D.pures,Bool.or_true,hlen];generalize hz:zloop KK _ _=rl
 refine zrange rl hz 41 (fI (by decide)) (by decide) (fun i t s' c=>tget t 0 = .str s∧tget t 6 = .sl true 41 tabC∧∀j,j<i→fP s j=none) (by decide) (by simp[aE]) (by simp[aE]) (by simp[aE]) ?_ ?_
 ·rintro i t s' c hi ⟨q0,q6,hn⟩ hti htn;have hl:i<tabL.length:=by rw[tab_len];exact hi
  have hrow:=hd.row hl;have hag:=cC.1 tab_ag _ (cA hl);simp only[bK,Bool.not_eq_true']at hag;obtain⟨g1,g2,g3,g4⟩:=hag;have hnm:PN1.getD i []=tabL[i].1:=by rw[←tab_names,gT,gW,aJ hl];rfl
  by_cases h0:i=0
  ·subst h0;have hp:fP s 0=none:=by unfold fP;rw[aD fun h=>absurd h.1 (by omega)]
   simp only[z2,↓reduceIte,Nat.reduceEqDiff,Nat.reduceAdd,Nat.reduceLeDiff,reduceCtorEq,q0,q6,hti,htn,hd.ia hl,hrow,tabE,g1,g2,g3,g4,Bool.or_self,show decide ((0:Int)<((0:Nat):Int))=false from rfl]
   exact⟨trivial,trivial,trivial,.inr (.inr trivial),nofun,nofun,trivial,trivial,eE hn hp⟩
  ·have hpos:decide ((0:Int)<(i:Nat))=true:=dT (by omega)
   by_cases he:tabL[i].1=s
   ·have hp:fP s i=some (e2 i 0):=by unfold fP;rw[hnm,aH ⟨by omega,he⟩]
    simp only[z2,↓reduceIte,Nat.reduceEqDiff,Nat.reduceAdd,Nat.reduceLeDiff,reduceCtorEq,q0,q6,hti,htn,hd.ia hl,hrow,tabE,g1,g2,g3,g4,Bool.or_self,hpos,he,A110];unfold findD;rw[fX hi hp hn];rfl
   ·have hp:fP s i=none:=by unfold fP;rw[hnm,aD fun h=>he h.2]
    simp only[z2,↓reduceIte,Nat.reduceEqDiff,Nat.reduceAdd,Nat.reduceLeDiff,reduceCtorEq,q0,q6,hti,htn,hd.ia hl,hrow,tabE,g1,g2,g3,g4,Bool.or_self,hpos,aL he];exact⟨trivial,trivial,trivial,.inr (.inr trivial),nofun,nofun,trivial,trivial,eE hn hp⟩
 ·rintro t s' c ⟨q0,q6,hn⟩ hti htn;simp only[z2,↓reduceIte,Nat.reduceEqDiff,Nat.reduceAdd,Nat.reduceLeDiff,reduceCtorEq,q0,q6,hti,htn,A110];unfold findD;rw[gN hn];rfl
theorem c61(n:Nat)(s:List UInt8)(hs:s.length<9223372036854775807):cl (n+8) 61 [.str s]=some (.bool (iQ s),true):=by
 rw[cN (A:=A61) rfl (n+8) _ rfl,show A61.body=B61 from rfl]
 simp only[B61,Ab.abq];have hres:∀w∈RW,s=w→iQ s=false:=fun w hw e=>by
  have:resB s=true:=by rw[resB,List.contains_iff_mem,e];exact hw
  rw[iQ,this];simp
 by_cases h0:s=[118,97,114]
 ·have hi:=hres _ (by simp[RW]) h0
  simp only[z2,↓reduceIte,Nat.reduceEqDiff,Nat.reduceAdd,Nat.reduceLeDiff,reduceCtorEq,eq_true h0,aR,bD,A61];rw[hi];rfl
 by_cases h1:s=[100,101,102]
 ·have hi:=hres _ (by simp[RW]) h1
  simp only[z2,↓reduceIte,Nat.reduceEqDiff,Nat.reduceAdd,Nat.reduceLeDiff,reduceCtorEq,aL h0,eq_true h1,aR,bD,A61];rw[hi];rfl
 by_cases h2:s=[111,117,116]
 ·have hi:=hres _ (by simp[RW]) h2
  simp only[z2,↓reduceIte,Nat.reduceEqDiff,Nat.reduceAdd,Nat.reduceLeDiff,reduceCtorEq,aL h0,aL h1,eq_true h2,aR,bD,A61];rw[hi];rfl
 by_cases h3:s=[105,102]
 ·have hi:=hres _ (by simp[RW]) h3
  simp only[z2,↓reduceIte,Nat.reduceEqDiff,Nat.reduceAdd,Nat.reduceLeDiff,reduceCtorEq,aL h0,aL h1,aL h2,eq_true h3,aR,bD,A61];rw[hi];rfl
 by_cases h4:s=[101,108,115,101]
 ·have hi:=hres _ (by simp[RW]) h4
  simp only[z2,↓reduceIte,Nat.reduceEqDiff,Nat.reduceAdd,Nat.reduceLeDiff,reduceCtorEq,aL h0,aL h1,aL h2,aL h3,eq_true h4,aR,bD,A61];rw[hi];rfl
 by_cases h5:s=[119,104,105,108,101]
 ·have hi:=hres _ (by simp[RW]) h5
  simp only[z2,↓reduceIte,Nat.reduceEqDiff,Nat.reduceAdd,Nat.reduceLeDiff,reduceCtorEq,aL h0,aL h1,aL h2,aL h3,aL h4,eq_true h5,aR,bD,A61];rw[hi];rfl
 by_cases h6:s=[101,110,100]
 ·have hi:=hres _ (by simp[RW]) h6
  simp only[z2,↓reduceIte,Nat.reduceEqDiff,Nat.reduceAdd,Nat.reduceLeDiff,reduceCtorEq,aL h0,aL h1,aL h2,aL h3,aL h4,aL h5,eq_true h6,aR,bD,A61];rw[hi];rfl
 by_cases h7:s=[114,101,108,101,97,115,101]
 ·have hi:=hres _ (by simp[RW]) h7
  simp only[z2,↓reduceIte,Nat.reduceEqDiff,Nat.reduceAdd,Nat.reduceLeDiff,reduceCtorEq,aL h0,aL h1,aL h2,aL h3,aL h4,aL h5,aL h6,eq_true h7,aR,bD,A61];rw[hi];rfl
 by_cases h8:s=[105,110,116]
 ·have hi:=hres _ (by simp[RW]) h8
  simp only[z2,↓reduceIte,Nat.reduceEqDiff,Nat.reduceAdd,Nat.reduceLeDiff,reduceCtorEq,aL h0,aL h1,aL h2,aL h3,aL h4,aL h5,aL h6,aL h7,eq_true h8,aR,bD,A61];rw[hi];rfl
 by_cases h9:s=[99,104,97,114]
 ·have hi:=hres _ (by simp[RW]) h9
  simp only[z2,↓reduceIte,Nat.reduceEqDiff,Nat.reduceAdd,Nat.reduceLeDiff,reduceCtorEq,aL h0,aL h1,aL h2,aL h3,aL h4,aL h5,aL h6,aL h7,aL h8,eq_true h9,aR,bD,A61];rw[hi];rfl
 have hres:resB s=false:=by
  rw[←eW,resB,List.contains_iff_mem];simp only[RW,bN,List.not_mem_nil,or_false,not_or];exact⟨h0,h1,h2,h3,h4,h5,h6,h7,h8,h9⟩
 rcases find_cases s with⟨p,hf⟩|hf
 ·have hfb:foundB s=true:=by rw[foundB,hf];rfl
  have hi:iQ s=false:=by rw[iQ,hfb];simp
  simp only[z2,↓reduceIte,Nat.reduceEqDiff,Nat.reduceAdd,Nat.reduceLeDiff,reduceCtorEq,aL h0,aL h1,aL h2,aL h3,aL h4,aL h5,aL h6,aL h7,aL h8,aL h9,aR,bD,aF (f:=110) rfl,aQ,c110,hf,fJ,Int.reduceEq,A61];rw[hi];rfl
 ·have hfb:foundB s=false:=by rw[foundB,hf];rfl
  have hi:iQ s=decide (wordE s=0):=by rw[iQ,hfb,hres];simp
  simp only[z2,↓reduceIte,Nat.reduceEqDiff,Nat.reduceAdd,Nat.reduceLeDiff,reduceCtorEq,aL h0,aL h1,aL h2,aL h3,aL h4,aL h5,aL h6,aL h7,aL h8,aL h9,aR,bD,aF (f:=110) rfl,aF (f:=111) rfl,aQ,c110,c111 n s hs,hf,fJ,Int.reduceEq,A61];rw[hi];rfl
open Go.Lib (decodeN decodeL)
theorem decodeD_L(s:List UInt8)(pos:Nat):oN s pos=decodeL (s.drop pos):=(Go.Lib.decodeL_drop ⟨s.toArray⟩ pos).symm
theorem c164(n:Nat){s:List UInt8}{m:Nat}(hm:cntL s=some m)(hs:s.length<4294967296):cl n 164 [.str s]=some (.int .i64 (m:Nat),true):=by
 rw[cN (A:=A164) rfl n _ rfl,show A164.body=B164 from rfl]
 simp only[B164,Ab.abq];simp only[z2,seval];generalize hz:zloop KK _ _=rl;refine zwhile rl hz s.length (fI (by omega)) (fun i z=>∃t st c pos,z=⟨t,st,c,[],none⟩∧pos≤s.length∧i≤pos∧tget t 2 = .int .i64 (i:Nat)∧tget t 4 = .it 0∧sget st 0=some (.iter s pos)∧∃r,cntL (s.drop pos)=some r∧r+i=m)
  ⟨_,_,_,0,rfl,by omega,by omega,by simp[aE],by simp[aE],by simp[aE],m,hm,by omega⟩ ?_
 rintro i z hi ⟨t,st,c,pos,rfl,hp,hip,q2,q4,s0,r,hr,hrm⟩;by_cases hlt:pos<s.length
 ·have hdr:s.drop pos≠[]:=fun h=>by have:=congrArg List.length h;rw[fH,bU]at this;omega
  have hle:=Go.Lib.decodeL_le (s.drop pos) hdr;rw[fH]at hle;have hw:=Go.Lib.decodeL_width (s.drop pos);simp only[z2,seval,q2,q4,s0,show Nat.blt pos s.length=true from by simp[Nat.blt_eq,hlt],decodeD_L,kS (show i<9223372036854775807 by omega)]
  rw[cntL_step hdr]at hr;split at hr
  ·cases hr
  ·simp only[aG,List.drop_drop]at hr;obtain⟨r',hr',rfl⟩:=hr;exact⟨by omega,_,_,_,pos+(decodeL (s.drop pos)).2,rfl,by omega,by omega,by simp[aE],by simp[aE,q4],by rw[aO,aH rfl],r',hr',by omega⟩
 ·simp only[z2,seval,q2,q4,s0,show Nat.blt pos s.length=false from by rw[←eW,Nat.blt_eq];exact hlt,A164]
  rw[List.drop_eq_nil_of_le (by omega),cntL_nil]at hr
  cases hr;rw[show i=m by omega];rfl
/-! How many operands. -/
def arD(p:Int):D:=if p<1∨40<p then e2 0 2 else if p≤14 then e2 1 0 else e2 2 0
def arOk(i:Nat)(x:Option (D×Bool)):Bool:=match x with
 | some (.tup [.int .i64 a,.int .i64 e],true)=>decide (e=0)&&decide (a=if i≤14 then 1 else 2)
 | _=>false
theorem ar163(n:Nat):((List.range 40).all fun(i:Nat)=>arOk (i+1) (cl (n+4) 163 [.int .i64 ((i+1:Nat):Int)]))=true:=by kernel_rfl
theorem c213e(n:Nat){p:Int}(h:p<1∨40<p):cl n 213 [.int .i64 p]=some (.tup [.agg [.str [],.nils,.nils,.nilfn,.nilfn],.int .i64 2],true):=by
 rw[cN (A:=A213) rfl n _ rfl,show A213.body=B213 from rfl]
 simp only[B213,Ab.abq];by_cases h1:p<1
 ·simp only[z0,seval,bH h1,A213];rfl
 ·simp only[z0,seval,aK h1,bH (show 40<p by omega),A213];rfl
theorem c163(n:Nat)(p:Int):cl (n+4) 163 [.int .i64 p]=some (arD p,true):=by
 by_cases h:p<1∨40<p
 ·rw[cN (A:=A163) rfl (n+4) _ rfl,show A163.body=B163 from rfl]
  simp only[B163,Ab.abq];simp only[z0,seval,aF (f:=213) rfl,aQ,c213e (n+3) h,D.pures,D.pure,Int.reduceEq,eL,aZ,aR,A163];rw[arD,aH h];rfl
 ·obtain⟨k,hk,rfl⟩:∃k:Nat,k<40∧p=((k+1:Nat):Int):=⟨(p-1).toNat,by omega,by omega⟩
  have:=cC.1 (ar163 n) k (List.mem_range.2 hk);unfold arOk at this;split at this
  ·rename_i a e hx;simp only[bK,cI]at this;rw[hx,arD,aD h,this.1,this.2];by_cases h14:k+1≤14
   ·rw[aH (by omega),aH (by omega)];rfl
   ·rw[aD (by omega),aD (by omega)];rfl
  ·cases this
end
end Zv
namespace Zv
open Go Ab
noncomputable section
structure Nd where
 kind:Int
 prim:Int
 kids:Int
 name:List UInt8
 text:List UInt8
 n:Int
 site:Int
def bW(x:Nd):List D:=[.int .i64 x.kind,.int .i64 x.prim,.int .i64 x.kids,.str x.name,.str x.text,.int .i64 x.n,.int .i64 x.site]
def fA(x:Nd):Int:=if x.kind=5∨x.kind=6 then x.kids else 0
theorem ar_cases(p:Int):(∃a:Int,arD p=e2 a 0∧¬(p<1∨40<p)∧a=if p≤14 then 1 else 2)∨(arD p=e2 0 2∧(p<1∨40<p)):=by
 unfold arD;by_cases h:p<1∨40<p
 ·exact .inr ⟨aH h,h⟩
 ·by_cases h2:p≤14
  ·exact .inl ⟨1,by rw[aD h,aH h2],h,by rw[aH h2]⟩
  ·exact .inl ⟨2,by rw[aD h,aD h2],h,by rw[aD h2]⟩
def surB(x:Nd):Bool:=(!decide (x.kind=1) && !decide (x.n=0))||((!decide (x.kind=2) && !decide (x.text=[]))||((!decide (x.kind=4)&&(!decide (x.kind=6) && !decide (x.name=[])))||((!decide (x.kind=5) && !decide (x.prim=0))||((decide (x.kind=5)&&decide (x.prim<1∨40<x.prim))||((decide (x.kind=1)||(decide (x.kind=2)||decide (x.kind=4))) && !decide (x.kids=0))))))
end
end Zv
namespace Zv
open Go
noncomputable section
def gI(x:Nd):Nd:=
 if x.kind=1 then⟨0,x.prim,x.kids,x.name,x.text,0,0⟩ else
 if x.kind=2 then⟨0,x.prim,x.kids,x.name,[],x.n,0⟩ else
 if x.kind=5 then⟨0,0,0,x.name,x.text,x.n,0⟩ else
 if x.kind=6 then⟨0,x.prim,0,[],x.text,x.n,0⟩ else
 if x.kind=4 then⟨0,x.prim,x.kids,[],x.text,x.n,0⟩ else
 if x.kind=3 then⟨0,x.prim,0,x.name,x.text,x.n,0⟩ else⟨0,x.prim,x.kids,x.name,x.text,x.n,0⟩
def isK(x:Nd):Bool:=decide (x.kind=5)||decide (x.kind=6)
theorem c123(n:Nat)(x:Nd):cl n 123 [.agg (bW x)]=some (.tup [.agg (bW (gI x)),.bool (isK x)],true):=by
 rw[cN (A:=A123) rfl n _ rfl,show A123.body=B123 from rfl]
 have htk:dH [.int .i64 x.kind,.int .i64 x.prim,.int .i64 x.kids,.str x.name,.str x.text,.int .i64 x.n,.int .i64 x.site] 0 (some 7)=some (.agg [.int .i64 x.kind,.int .i64 x.prim,.int .i64 x.kids,.str x.name,.str x.text,.int .i64 x.n,.int .i64 x.site]):=rfl;simp only[B123,Ab.abq];by_cases k1:x.kind=1
 ·have hr:gI x=⟨0,x.prim,x.kids,x.name,x.text,0,0⟩:=aH k1;have hi:isK x=false:=by rw[isK,k1];rfl
  rw[hr,hi];unfold bW;simp only[z0,seval,k1,aR,bD,Int.reduceEq,A123];rfl
 by_cases k2:x.kind=2
 ·have hr:gI x=⟨0,x.prim,x.kids,x.name,[],x.n,0⟩:=by rw[gI,aD k1,aH k2]
  have hi:isK x=false:=by rw[isK,k2];rfl
  rw[hr,hi];unfold bW;simp only[z0,seval,k2,aR,bD,Int.reduceEq,A123];rfl
 by_cases k5:x.kind=5
 ·have hr:gI x=⟨0,0,0,x.name,x.text,x.n,0⟩:=by rw[gI,aD k1,aD k2,aH k5]
  have hi:isK x=true:=by rw[isK,k5];rfl
  rw[hr,hi];unfold bW;simp only[z0,seval,k5,aR,bD,Int.reduceEq,A123];rfl
 by_cases k6:x.kind=6
 ·have hr:gI x=⟨0,x.prim,0,[],x.text,x.n,0⟩:=by rw[gI,aD k1,aD k2,aD k5,aH k6]
  have hi:isK x=true:=by rw[isK,k6];rfl
  rw[hr,hi];unfold bW;simp only[z0,seval,k6,aR,bD,Int.reduceEq,A123];rfl
 by_cases k4:x.kind=4
 ·have hr:gI x=⟨0,x.prim,x.kids,[],x.text,x.n,0⟩:=by rw[gI,aD k1,aD k2,aD k5,aD k6,aH k4]
  have hi:isK x=false:=by rw[isK,k4];rfl
  rw[hr,hi];unfold bW;simp only[z0,seval,k4,aR,bD,Int.reduceEq,A123];rfl
 by_cases k3:x.kind=3
 ·have hr:gI x=⟨0,x.prim,0,x.name,x.text,x.n,0⟩:=by rw[gI,aD k1,aD k2,aD k5,aD k6,aD k4,aH k3]
  have hi:isK x=false:=by rw[isK,k3];rfl
  rw[hr,hi];unfold bW;simp only[z0,seval,k3,aR,bD,Int.reduceEq,A123];rfl
 have hr:gI x=⟨0,x.prim,x.kids,x.name,x.text,x.n,0⟩:=by rw[gI,aD k1,aD k2,aD k5,aD k6,aD k4,aD k3]
 have hi:isK x=false:=by rw[isK,aK k5,aK k6];rfl
 rw[hr,hi];unfold bW;simp only[z0,seval,aK k1,aK k2,aK k3,aK k4,aK k5,aK k6,A123];rfl
theorem B119_eq:B119=(.seq (.reg none [⟨(some 1),(.new 57 (.t 0)),none⟩,⟨(some 2),(.mv (.c (.int .i64 0))),none⟩]) (.seq V1 (.seq (.reg none [⟨(some 3),(.mv (.c (.int .i64 0))),none⟩]) (.seq V2 (.seq (.reg none [⟨(some 29),(.ld (some 7) (.t 1)),none⟩,⟨(some 30),(.call 123 [(.t 29)]),none⟩,⟨(some 28),(.mv (.t 30)),none⟩,⟨(some 31),(.ext 0 (.t 28)),none⟩,⟨(some 32),(.ext 1 (.t 28)),none⟩,⟨(some 6),(.new 57 (.c (.agg [(.int .i64 0),(.int .i64 0),(.int .i64 0),(.str []),(.str []),(.int .i64 0),(.int .i64 0)]))),none⟩,⟨none,(.st 7 (.t 6) (.t 31)),none⟩,⟨(some 7),(.mv (.t 32)),none⟩]) (.seq (.block 0 V3) (.seq (.reg none [⟨(some 2),(.mv (.c (.int .i64 0))),none⟩]) .ret))))))):=rfl
def StF(x:Nd)(st:St)(t:Tm)(ar:Int):Prop:=sget st 0=some (.fix 57 (bW x))∧sget st 1=some (.fix 57 (bW (gI x)))∧tget t 1 = .ptr 0 0∧tget t 6 = .ptr 1 0∧tget t 3 = .int .i64 ar
def StepF(V V':AC)(n:Nat)(x:Nd)(b:Bool)(e ar:Int):Prop:=∀{t:Tm} {st:St} {c:Nat},StF x st t ar →
 (b=true→∃t',zC V (cxn (n+9)) (fn (n+9) 4096) KK ⟨t,st,c,[],none⟩ = .ok .ret ⟨t',st,c,[],none⟩∧tget t' 2 = .int .i64 e) ∧
 (b=false→∃t',zC V (cxn (n+9)) (fn (n+9) 4096) KK ⟨t,st,c,[],none⟩=zC V' (cxn (n+9)) (fn (n+9) 4096) KK ⟨t',st,c,[],none⟩∧StF x st t' ar)
def zeroB(y:Nd):Bool:=(y.kind==0)&&((y.prim==0)&&((y.kids==0)&&((y.name==[])&&((y.text==[])&&((y.n==0)&&(y.site==0))))))
theorem zero_cmp(y:Nd):pI (.ty (.parts [(0,none,.int),(1,none,.int),(2,none,.int),(3,none,.str),(4,none,.str),(5,none,.int),(6,none,.int)])) (.agg [.int .i64 y.kind,.int .i64 y.prim,.int .i64 y.kids,.str y.name,.str y.text,.int .i64 y.n,.int .i64 y.site]) (.agg [.int .i64 0,.int .i64 0,.int .i64 0,.str [],.str [],.int .i64 0,.int .i64 0])=some (zeroB y):=by
 have h:∀a b c d e f g:Bool,(bif a then bif b then bif c then bif d then bif e then bif f then bif g then some true else some false else some false else some false else some false else some false else some false else some false)=some (a&&(b&&(c&&(d&&(e&&(f&&g)))))):=by decide
 exact h (y.kind==0) (y.prim==0) (y.kids==0) (y.name==[]) (y.text==[]) (y.n==0) (y.site==0)
theorem V3_ok(n:Nat)(x:Nd){ar:Int}:StepF V3 V4 n x (!zeroB (gI x)) 2 ar:=fun {t st c} h=>by
 obtain⟨s0,s1,q1,q6,q3⟩:=h;have s00:=s0;have s11:=s1;unfold bW at s0 s1
 have htk:dH [.int .i64 (gI x).kind,.int .i64 (gI x).prim,.int .i64 (gI x).kids,.str (gI x).name,.str (gI x).text,.int .i64 (gI x).n,.int .i64 (gI x).site] 0 (some 7)=some (.agg [.int .i64 (gI x).kind,.int .i64 (gI x).prim,.int .i64 (gI x).kids,.str (gI x).name,.str (gI x).text,.int .i64 (gI x).n,.int .i64 (gI x).site]):=rfl;have hz:=zero_cmp (gI x)
 simp only[V3,Ab.abq];cases h1:zeroB (gI x)
 ·simp only[z2,seval,s0,s1,q1,q6,q3,Int.reduceEq,Int.reduceLT,Int.reduceLE,eL,aY,aZ,aR,bD,cF,bM,bI,h1,htk,hz,bO];exact⟨fun _=>⟨_,rfl,by simp[aE]⟩,nofun⟩
 ·simp only[z2,seval,s0,s1,q1,q6,q3,Int.reduceEq,Int.reduceLT,Int.reduceLE,eL,aY,aZ,aR,bD,cF,bM,bI,h1,htk,hz,bO];exact⟨nofun,fun _=>⟨_,rfl,s00,s11,by simp[aE,q1],by simp[aE,q6],by simp[aE,q3]⟩⟩
theorem V4_ok(n:Nat)(x:Nd){ar:Int}:StepF V4 V5 n x (decide (x.site<0)||decide (1000000000<x.site)) 7 ar:=fun {t st c} h=>by
 obtain⟨s0,s1,q1,q6,q3⟩:=h;have s00:=s0;have s11:=s1;unfold bW at s0 s1;simp only[V4,Ab.abq];cases h1:decide (x.site<0)
 ·cases h2:decide (1000000000<x.site)
  ·simp only[z0,seval,s0,s1,q1,q6,q3,Int.reduceEq,Int.reduceLT,Int.reduceLE,eL,aY,aZ,aR,bD,cF,bM,bI,h1,h2];exact⟨nofun,fun _=>⟨_,rfl,s00,s11,by simp[aE,q1],by simp[aE,q6],by simp[aE,q3]⟩⟩
  ·simp only[z0,seval,s0,s1,q1,q6,q3,Int.reduceEq,Int.reduceLT,Int.reduceLE,eL,aY,aZ,aR,bD,cF,bM,bI,h1,h2];exact⟨fun _=>⟨_,rfl,by simp[aE]⟩,nofun⟩
 ·simp only[z0,seval,s0,s1,q1,q6,q3,Int.reduceEq,Int.reduceLT,Int.reduceLE,eL,aY,aZ,aR,bD,cF,bM,bI,h1];exact⟨fun _=>⟨_,rfl,by simp[aE]⟩,nofun⟩
theorem V5_ok(n:Nat)(x:Nd){ar:Int}(ht:x.text.length<4294967296):StepF V5 V6 n x (!Go.Lib.validD x.text) 6 ar:=fun {t st c} h=>by
 obtain⟨s0,s1,q1,q6,q3⟩:=h;have s00:=s0;have s11:=s1;unfold bW at s0 s1;have hble:decide (x.text.length≤9223372036854775807)=true:=bH (by omega)
 simp only[V5,Ab.abq];cases h1:Go.Lib.validD x.text
 ·simp only[z0,seval,s0,s1,q1,q6,q3,Int.reduceEq,Int.reduceLT,Int.reduceLE,eL,aY,aZ,aR,bD,cF,bM,bI,h1,fn_spec (f:=158) (g:=oM) rfl rfl,oM,hble];exact⟨fun _=>⟨_,rfl,by simp[aE]⟩,nofun⟩
 ·simp only[z0,seval,s0,s1,q1,q6,q3,Int.reduceEq,Int.reduceLT,Int.reduceLE,eL,aY,aZ,aR,bD,cF,bM,bI,h1,fn_spec (f:=158) (g:=oM) rfl rfl,oM,hble];exact⟨nofun,fun _=>⟨_,rfl,s00,s11,by simp[aE,q1],by simp[aE,q6],by simp[aE,q3]⟩⟩
theorem V6_ok(n:Nat)(x:Nd){ar:Int}{k:Nat}(hk:cntL x.text=some k)(ht:x.text.length<4294967296):StepF V6 V7 n x (decide (400<((k:Nat):Int))||(decide (x.kind=3)&&decide (400≤x.kids))) 3 ar:=fun {t st c} h=>by
 obtain⟨s0,s1,q1,q6,q3⟩:=h;have s00:=s0;have s11:=s1;unfold bW at s0 s1;have h164:=c164 (n+8) hk ht;simp only[V6,Ab.abq];cases h1:decide (400<((k:Nat):Int))
 ·cases h2:decide (x.kind=3)
  ·simp only[z0,seval,s0,s1,q1,q6,q3,Int.reduceEq,Int.reduceLT,Int.reduceLE,eL,aY,aZ,aR,bD,cF,bM,bI,h1,h2,aF (f:=164) rfl,aQ,h164];exact⟨nofun,fun _=>⟨_,rfl,s00,s11,by simp[aE,q1],by simp[aE,q6],by simp[aE,q3]⟩⟩
  ·cases h3:decide (400≤x.kids)
   ·simp only[z0,seval,s0,s1,q1,q6,q3,Int.reduceEq,Int.reduceLT,Int.reduceLE,eL,aY,aZ,aR,bD,cF,bM,bI,h1,h2,h3,aF (f:=164) rfl,aQ,h164];exact⟨nofun,fun _=>⟨_,rfl,s00,s11,by simp[aE,q1],by simp[aE,q6],by simp[aE,q3]⟩⟩
   ·simp only[z0,seval,s0,s1,q1,q6,q3,Int.reduceEq,Int.reduceLT,Int.reduceLE,eL,aY,aZ,aR,bD,cF,bM,bI,h1,h2,h3,aF (f:=164) rfl,aQ,h164];exact⟨fun _=>⟨_,rfl,by simp[aE]⟩,nofun⟩
 ·simp only[z0,seval,s0,s1,q1,q6,q3,Int.reduceEq,Int.reduceLT,Int.reduceLE,eL,aY,aZ,aR,bD,cF,bM,bI,h1,aF (f:=164) rfl,aQ,h164];exact⟨fun _=>⟨_,rfl,by simp[aE]⟩,nofun⟩
theorem V7_ok(n:Nat)(x:Nd){ar:Int}:StepF V7 V8 n x ((decide (x.kind=3)&&decide (x.kids<0))||((decide (x.kind=5) && !decide (x.kids=ar))||(decide (x.kind=6)&&(decide (x.kids<1)||decide (2<x.kids))))) 23 ar:=fun {t st c} h=>by
 obtain⟨s0,s1,q1,q6,q3⟩:=h;have s00:=s0;have s11:=s1;unfold bW at s0 s1;simp only[V7,Ab.abq];by_cases k3:x.kind=3
 ·rw[k3];rw[k3]at s0;cases h1:decide (x.kids<0)
  ·simp only[z0,seval,s0,s1,q1,q6,q3,Int.reduceEq,Int.reduceLT,Int.reduceLE,eL,aY,aZ,aR,bD,cF,bM,bI,h1];exact⟨nofun,fun _=>⟨_,rfl,s00,s11,by simp[aE,q1],by simp[aE,q6],by simp[aE,q3]⟩⟩
  ·simp only[z0,seval,s0,s1,q1,q6,q3,Int.reduceEq,Int.reduceLT,Int.reduceLE,eL,aY,aZ,aR,bD,cF,bM,bI,h1];exact⟨fun _=>⟨_,rfl,by simp[aE]⟩,nofun⟩
 by_cases k5:x.kind=5
 ·rw[k5];rw[k5]at s0;cases h1:decide (x.kids=ar)
  ·simp only[z0,seval,s0,s1,q1,q6,q3,Int.reduceEq,Int.reduceLT,Int.reduceLE,eL,aY,aZ,aR,bD,cF,bM,bI,h1];exact⟨fun _=>⟨_,rfl,by simp[aE]⟩,nofun⟩
  ·simp only[z0,seval,s0,s1,q1,q6,q3,Int.reduceEq,Int.reduceLT,Int.reduceLE,eL,aY,aZ,aR,bD,cF,bM,bI,h1];exact⟨nofun,fun _=>⟨_,rfl,s00,s11,by simp[aE,q1],by simp[aE,q6],by simp[aE,q3]⟩⟩
 by_cases k6:x.kind=6
 ·rw[k6];rw[k6]at s0;cases h1:decide (x.kids<1)
  ·cases h2:decide (2<x.kids)
   ·simp only[z0,seval,s0,s1,q1,q6,q3,Int.reduceEq,Int.reduceLT,Int.reduceLE,eL,aY,aZ,aR,bD,cF,bM,bI,h1,h2];exact⟨nofun,fun _=>⟨_,rfl,s00,s11,by simp[aE,q1],by simp[aE,q6],by simp[aE,q3]⟩⟩
   ·simp only[z0,seval,s0,s1,q1,q6,q3,Int.reduceEq,Int.reduceLT,Int.reduceLE,eL,aY,aZ,aR,bD,cF,bM,bI,h1,h2];exact⟨fun _=>⟨_,rfl,by simp[aE]⟩,nofun⟩
  ·simp only[z0,seval,s0,s1,q1,q6,q3,Int.reduceEq,Int.reduceLT,Int.reduceLE,eL,aY,aZ,aR,bD,cF,bM,bI,h1];exact⟨fun _=>⟨_,rfl,by simp[aE]⟩,nofun⟩
 simp only[z0,seval,s0,s1,q1,q6,q3,Int.reduceEq,Int.reduceLT,Int.reduceLE,eL,aY,aZ,aR,bD,cF,bM,bI,aK k3,aK k5,aK k6];exact⟨nofun,fun _=>⟨_,rfl,s00,s11,by simp[aE,q1],by simp[aE,q6],by simp[aE,q3]⟩⟩
theorem V8_ok(n:Nat)(x:Nd){ar:Int}(hn:x.name.length<9223372036854775807):StepF V8 .skip n x ((decide (x.kind=4)||decide (x.kind=6)) && !iQ x.name) 24 ar:=fun {t st c} h=>by
 obtain⟨s0,s1,q1,q6,q3⟩:=h;have s00:=s0;have s11:=s1;unfold bW at s0 s1;have h61:=c61 n x.name hn;simp only[V8,Ab.abq];by_cases k4:x.kind=4
 ·rw[k4];rw[k4]at s0;cases h9:iQ x.name
  ·simp only[z0,seval,s0,s1,q1,q6,q3,Int.reduceEq,Int.reduceLT,Int.reduceLE,eL,aY,aZ,aR,bD,cF,bM,bI,h9,aF (f:=61) rfl,aQ,h61];exact⟨fun _=>⟨_,rfl,by simp[aE]⟩,nofun⟩
  ·simp only[z0,seval,s0,s1,q1,q6,q3,Int.reduceEq,Int.reduceLT,Int.reduceLE,eL,aY,aZ,aR,bD,cF,bM,bI,h9,aF (f:=61) rfl,aQ,h61];exact⟨nofun,fun _=>⟨_,rfl,s00,s11,by simp[aE,q1],by simp[aE,q6],by simp[aE,q3]⟩⟩
 by_cases k6:x.kind=6
 ·rw[k6];rw[k6]at s0;cases h9:iQ x.name
  ·simp only[z0,seval,s0,s1,q1,q6,q3,Int.reduceEq,Int.reduceLT,Int.reduceLE,eL,aY,aZ,aR,bD,cF,bM,bI,h9,aF (f:=61) rfl,aQ,h61];exact⟨fun _=>⟨_,rfl,by simp[aE]⟩,nofun⟩
  ·simp only[z0,seval,s0,s1,q1,q6,q3,Int.reduceEq,Int.reduceLT,Int.reduceLE,eL,aY,aZ,aR,bD,cF,bM,bI,h9,aF (f:=61) rfl,aQ,h61];exact⟨nofun,fun _=>⟨_,rfl,s00,s11,by simp[aE,q1],by simp[aE,q6],by simp[aE,q3]⟩⟩
 simp only[z0,seval,s0,s1,q1,q6,q3,Int.reduceEq,Int.reduceLT,Int.reduceLE,eL,aY,aZ,aR,bD,cF,bM,bI,aK k4,aK k6];exact⟨nofun,fun _=>⟨_,rfl,s00,s11,by simp[aE,q1],by simp[aE,q6],by simp[aE,q3]⟩⟩
end
end Zv
namespace Zv
open Go Ab
noncomputable section
end
end Zv
namespace Zv
open Go
noncomputable section
def arI(p:Int):Int:=match arD p with | .tup [.int _ a,_]=>a|_=>0
def kT(x:Nd):Int:=
 bif decide (x.kind<1)||(decide (6<x.kind)||surB x) then 2 else
 bif decide (x.site<0)||decide (1000000000<x.site) then 7 else
 bif decide (cntI x.text<0) then 6 else
 bif decide (400<cntI x.text)||(decide (x.kind=3)&&decide (400≤x.kids)) then 3 else
 bif (decide (x.kind=3)&&decide (x.kids<0))||((decide (x.kind=5) && !decide (x.kids=arI x.prim))||(decide (x.kind=6)&&(!decide (x.kids=1) && !decide (x.kids=2)))) then 23 else
 bif (decide (x.kind=4)||decide (x.kind=6)) && !iQ x.name then 24 else 0
def lE(x:Nd):Int:=
 bif !zeroB (gI x) then 2 else
 bif decide (x.site<0)||decide (1000000000<x.site) then 7 else
 bif decide (cntI x.text<0) then 6 else
 bif decide (400<cntI x.text)||(decide (x.kind=3)&&decide (400≤x.kids)) then 3 else
 bif (decide (x.kind=3)&&decide (x.kids<0))||((decide (x.kind=5) && !decide (x.kids=arI x.prim))||(decide (x.kind=6)&&(!decide (x.kids=1) && !decide (x.kids=2)))) then 23 else
 bif (decide (x.kind=4)||decide (x.kind=6)) && !iQ x.name then 24 else 0
theorem late_run(n:Nat)(x:Nd)(hn:x.name.length<9223372036854775807)(ht:x.text.length<4294967296){ar:Int}(har:x.kind=5→ar=arI x.prim){t:Tm}{st:St}{c:Nat}(h:StF x st t ar):
  ∃t',(lE x≠0∧zC V3 (cxn (n+9)) (fn (n+9) 4096) KK ⟨t,st,c,[],none⟩ = .ok .ret ⟨t',st,c,[],none⟩∧tget t' 2 = .int .i64 (lE x))∨(lE x=0∧zC V3 (cxn (n+9)) (fn (n+9) 4096) KK ⟨t,st,c,[],none⟩ = .ok .normal ⟨t',st,c,[],none⟩):=by
 obtain⟨a3,b3⟩:=V3_ok n x (c:=c) h;cases e3 : !zeroB (gI x)
 case true=>
  obtain⟨t',r1,r2⟩:=a3 e3;have:lE x=2:=by rw[lE,e3];rfl
  exact⟨t',.inl ⟨by rw[this];decide,r1,by rw[this];exact r2⟩⟩
 obtain⟨t3,r3,k3⟩:=b3 e3;obtain⟨a4,b4⟩:=V4_ok n x (c:=c) k3;cases e4:(decide (x.site<0)||decide (1000000000<x.site))
 case true=>
  obtain⟨t',r1,r2⟩:=a4 e4;have:lE x=7:=by rw[lE,e3,e4];rfl
  exact⟨t',.inl ⟨by rw[this];decide,r3.trans r1,by rw[this];exact r2⟩⟩
 obtain⟨t4,r4,k4⟩:=b4 e4;obtain⟨a5,b5⟩:=V5_ok n x ht (c:=c) k4;have hcv:decide (cntI x.text<0) = !Go.Lib.validD x.text:=by
  rw[valid_cnt,cntI];cases cntL x.text with
  | none=>rfl
  | some k=>simp
 cases e5 : !Go.Lib.validD x.text
 case true=>
  obtain⟨t',r1,r2⟩:=a5 e5;have:lE x=6:=by rw[lE,e3,e4,hcv,e5];rfl
  exact⟨t',.inl ⟨by rw[this];decide,r3.trans (r4.trans r1),by rw[this];exact r2⟩⟩
 obtain⟨t5,r5,k5⟩:=b5 e5;obtain⟨k,hk⟩:∃k,cntL x.text=some k:=by
  rw[valid_cnt]at e5;cases hc:cntL x.text with
  | none=>rw[hc]at e5;cases e5
  | some k=>exact⟨k,rfl⟩
 have hci:cntI x.text=(k:Nat):=by rw[cntI,hk]
 obtain⟨a6,b6⟩:=V6_ok n x hk ht (c:=c) k5;cases e6:(decide (400<((k:Nat):Int))||(decide (x.kind=3)&&decide (400≤x.kids)))
 case true=>
  obtain⟨t',r1,r2⟩:=a6 e6;have:lE x=3:=by rw[lE,e3,e4,hcv,e5,hci,e6];rfl
  exact⟨t',.inl ⟨by rw[this];decide,r3.trans (r4.trans (r5.trans r1)),by rw[this];exact r2⟩⟩
 obtain⟨t6,r6,k6⟩:=b6 e6;obtain⟨a7,b7⟩:=V7_ok n x (c:=c) k6;have h7:((decide (x.kind=3)&&decide (x.kids<0))||((decide (x.kind=5) && !decide (x.kids=ar))||(decide (x.kind=6)&&(decide (x.kids<1)||decide (2<x.kids)))))=((decide (x.kind=3)&&decide (x.kids<0))||((decide (x.kind=5) && !decide (x.kids=arI x.prim))||(decide (x.kind=6)&&(!decide (x.kids=1) && !decide (x.kids=2))))):=by
  have e1:(decide (x.kids<1)||decide (2<x.kids))=(!decide (x.kids=1) && !decide (x.kids=2)):=by
   rw[dA];simp;omega
  by_cases h5:x.kind=5
  ·rw[e1,har h5]
  ·rw[e1,aK h5];simp
 cases e7:((decide (x.kind=3)&&decide (x.kids<0))||((decide (x.kind=5) && !decide (x.kids=ar))||(decide (x.kind=6)&&(decide (x.kids<1)||decide (2<x.kids)))))
 case true=>
  obtain⟨t',r1,r2⟩:=a7 e7;have:lE x=23:=by rw[lE,e3,e4,hcv,e5,hci,e6,←h7,e7];rfl
  exact⟨t',.inl ⟨by rw[this];decide,r3.trans (r4.trans (r5.trans (r6.trans r1))),by rw[this];exact r2⟩⟩
 obtain⟨t7,r7,k7⟩:=b7 e7;obtain⟨a8,b8⟩:=V8_ok n x hn (c:=c) k7;cases e8:((decide (x.kind=4)||decide (x.kind=6)) && !iQ x.name)
 case true=>
  obtain⟨t',r1,r2⟩:=a8 e8;have:lE x=24:=by rw[lE,e3,e4,hcv,e5,hci,e6,←h7,e7,e8];rfl
  exact⟨t',.inl ⟨by rw[this];decide,r3.trans (r4.trans (r5.trans (r6.trans (r7.trans r1)))),by rw[this];exact r2⟩⟩
 obtain⟨t8,r8,k8⟩:=b8 e8;have:lE x=0:=by rw[lE,e3,e4,hcv,e5,hci,e6,←h7,e7,e8];rfl
 exact⟨t8,.inr ⟨this,r3.trans (r4.trans (r5.trans (r6.trans (r7.trans r8))))⟩⟩
theorem sur_rest(x:Nd)(h:¬(x.kind<1∨6<x.kind)):surB x=(decide (x.kind=5∧(x.prim<1∨40<x.prim)) || !zeroB (gI x)):=by
 have hb:∀z:Int,(z==0)=decide (z=0):=fun z=>rfl
 have hl:∀l:List UInt8,(l==[])=decide (l=[]):=fun l=>by cases l<;>simp
 obtain k|k|k|k|k|k:x.kind=1∨x.kind=2∨x.kind=3∨x.kind=4∨x.kind=5∨x.kind=6:=by omega
 all_goals (unfold surB zeroB gI;simp only[k,hb,hl,Int.reduceEq,↓reduceIte,aR,bD,bM,bI,Bool.true_and,Bool.false_and,Bool.and_true,Bool.or_false,Bool.false_or,Bool.true_or,true_and,false_and])
 all_goals (generalize decide (x.n=0)=b1;generalize decide (x.text=[])=b2;generalize decide (x.name=[])=b3;generalize decide (x.prim=0)=b4;generalize decide (x.kids=0)=b5;generalize decide (x.prim<1∨40<x.prim)=b6;cases b1<;>cases b2<;>cases b3<;>cases b4<;>cases b5<;>cases b6<;>rfl)
theorem wrong_late(x:Nd):kT x=if x.kind<1∨6<x.kind then 2 else if x.kind=5∧(x.prim<1∨40<x.prim) then 2 else lE x:=by
 by_cases h:x.kind<1∨6<x.kind
 ·rw[aH h,kT];have:(decide (x.kind<1)||(decide (6<x.kind)||surB x))=true:=by
   rcases h with h|h<;>simp[h]
  rw[this];rfl
 ·rw[aD h];have h1:decide (x.kind<1)=false:=aK fun h'=>h (.inl h')
  have h2:decide (6<x.kind)=false:=aK fun h'=>h (.inr h')
  have hs:=sur_rest x h;rw[kT,h1,h2,hs,Bool.false_or,Bool.false_or];by_cases h5:x.kind=5∧(x.prim<1∨40<x.prim)
  ·rw[aH h5,bH h5];rfl
  ·rw[aD h5,aK h5,Bool.false_or,lE]
theorem c119(n:Nat)(x:Nd)(hn:x.name.length<9223372036854775807)(ht:x.text.length<4294967296):cl (n+9) 119 [.agg (bW x)]=some (.int .i64 (kT x),true):=by
 rw[cN (A:=A119) rfl (n+9) _ rfl,show A119.body=B119 from rfl,B119_eq,wrong_late]
 simp only[V1,V2,Ab.abq];have htk:dH [.int .i64 x.kind,.int .i64 x.prim,.int .i64 x.kids,.str x.name,.str x.text,.int .i64 x.n,.int .i64 x.site] 0 (some 7)=some (.agg (bW x)):=rfl;have hfz:∀st,[D.agg (bW x)].mapM (frz false 20 st)=some [D.agg (bW x)]:=fun _=>rfl
 have h123:=c123 (n+8) x;have hl7:(bW (gI x)).length=7:=rfl;have hna:(bW (gI x)).any eP=false:=rfl;have hset:eU [.int .i64 0,.int .i64 0,.int .i64 0,.str [],.str [],.int .i64 0,.int .i64 0] 0 (bW (gI x))=bW (gI x):=rfl;by_cases h1:x.kind<1
 ·rw[aH (.inl h1)];unfold bW;simp only[z0,seval,bH h1,A119];rfl
 by_cases h2:6<x.kind
 ·rw[aH (.inr h2)];unfold bW;simp only[z0,seval,aK h1,bH h2,A119];rfl
 rw[aD (fun h=>h.elim h1 h2)]
 have fin:∀(ar:Int) (T:Tm) (S:St) (c:Nat),(x.kind=5→ar=arI x.prim)→StF x S T ar→pout (zbody (dfn (n+9) MM) A119 (zbind (mC 0 (zC V3 (cxn (n+9)) (fn (n+9) 4096) KK ⟨T,S,c,[],none⟩)) (zC (.seq (.reg none [⟨some 2,.mv (.c (.int .i64 0)),none⟩]) .ret) (cxn (n+9)) (fn (n+9) 4096) KK)))=some (.int .i64 (lE x),true):=fun ar T S c har hst=>by
  obtain⟨t',⟨h0,r1,r2⟩|⟨h0,r1⟩⟩:=late_run n x hn ht har (c:=c) hst
  ·simp only[z0,seval,r1,r2,A119];rfl
  ·simp only[z0,seval,r1,A119];rw[h0];rfl
 by_cases h5:x.kind=5
 ·rcases ar_cases x.prim with⟨a,hf,hr,_⟩|⟨hf,hr⟩
  ·rw[aD (fun h=>hr h.2)]
   have har:arI x.prim=a:=by rw[arI,hf];rfl
   have htk5:dH [.int .i64 5,.int .i64 x.prim,.int .i64 x.kids,.str x.name,.str x.text,.int .i64 x.n,.int .i64 x.site] 0 (some 7)=some (.agg (bW x)):=by rw[←h5];rfl
   unfold bW;simp only[z2,seval,h5,Int.reduceLT,aR,bD,aF (f:=163) rfl,aQ,c163 (n+4) x.prim,hf,fJ,eL,aY,eq_self,htk5];simp only[z2,seval,aF (f:=123) rfl,aQ,hfz,h123,hl7,hna,hset,Nat.reduceLeDiff,bO];refine fin a _ _ _ (fun _=>har.symm) ⟨?_,?_,?_,?_,?_⟩
   ·simp[aE];rw[bW,h5]
   all_goals simp[aE]
  ·rw[aH ⟨h5,hr⟩];unfold bW;simp only[z2,seval,h5,Int.reduceLT,aR,bD,aF (f:=163) rfl,aQ,c163 (n+4) x.prim,hf,fJ,eL,Int.reduceEq,aZ,A119];rfl
 ·rw[aD (fun h=>h5 h.1)]
  unfold bW;simp only[z2,seval,aK h1,aK h2,aK h5,htk];simp only[z2,seval,aF (f:=123) rfl,aQ,hfz,h123,hl7,hna,hset,Nat.reduceLeDiff,bO];refine fin 0 _ _ _ (fun h=>absurd h h5) ⟨?_,?_,?_,?_,?_⟩
  ·simp[aE];rfl
  all_goals simp[aE]
def sM(l:List Nd)(p:Nat):Bool:=match l[p]? with|some x=>decide (x.kind=1)|none=>false
def nR(l:List Nd)(i k:Nat):Bool:=allN k fun j=>sM l (i+1+j)
theorem numB_lt{l:List Nd}{p:Nat}(h:p<l.length):sM l p=decide (l[p].kind=1):=by unfold sM;rw[aJ h]
theorem numB_ge{l:List Nd}{p:Nat}(h:l.length≤p):sM l p=false:=by unfold sM;rw[gO h]
structure oR (x:Nd):Prop where
 k3:x.kind=3→0≤x.kids∧x.kids<400
 kp:x.kind=5∨x.kind=6→x.kids=1∨x.kids=2
theorem good_of{x:Nd}(h:kT x=0):oR x:=by
 unfold kT at h;cases h1:decide (x.kind<1)||(decide (6<x.kind)||surB x)
 case true=>rw[h1]at h;cases h
 cases h2:decide (x.site<0)||decide (1000000000<x.site)
 case true=>rw[h1,h2]at h;cases h
 cases h3:decide (cntI x.text<0)
 case true=>rw[h1,h2,h3]at h;cases h
 cases h4:decide (400<cntI x.text)||(decide (x.kind=3)&&decide (400≤x.kids))
 case true=>rw[h1,h2,h3,h4]at h;cases h
 cases h5:(decide (x.kind=3)&&decide (x.kids<0))||((decide (x.kind=5) && !decide (x.kids=arI x.prim))||(decide (x.kind=6)&&(!decide (x.kids=1) && !decide (x.kids=2))))
 case true=>rw[h1,h2,h3,h4,h5]at h;cases h
 simp only[Bool.or_eq_false_iff,Bool.and_eq_false_imp,cI,cE,Bool.not_eq_false',Bool.not_eq_eq_eq_not,bM]at h1 h4 h5;refine⟨fun k=>⟨by have:=h5.1 k;omega,by have:=h4.2 k;omega⟩,fun k=>?_⟩
 rcases k with k|k
 ·have e:=of_decide_eq_true (h5.2.1 k);have hs:=h1.2.2;rcases ar_cases x.prim with⟨a,hf,hr,ha⟩|⟨hf,hr⟩
  ·have e':x.kids=a:=e.trans (by rw[arI,hf];rfl)
   rw[e',ha];split<;>simp
  ·exfalso;have:decide (x.kind=5∧(x.prim<1∨40<x.prim))=true:=bH ⟨k,hr⟩;rw[sur_rest x (by omega),this]at hs
   cases hs
 ·have:=h5.2.2 k;by_cases e:x.kids=1
  ·exact .inl e
  ·exact .inr (by simpa[e]using this)
structure jP (l:List Nd):Prop where
 nd:∀(i:Nat) (h:i<l.length),oR l[i]
 ls:∀(i:Nat) (h:i<l.length),l[i].kind=3→i+1+l[i].kids.toNat≤l.length
def nB(l:List Nd):Nat→Nat→Nat
 | 0,_=>l.length+1
 | f+1,i=>match l[i]? with
  | none=>l.length+1
  | some x=>if x.kind=3 then i+1+x.kids.toNat else if fA x=1 then nB l f (i+1) else if fA x=2 then(if nB l f (i+1)≤l.length then nB l f (nB l f (i+1)) else nB l f (i+1)) else i+1
theorem endF_gt(l:List Nd):∀(f i:Nat),i≤l.length→i<nB l f i
 | 0,i,h=>by rw[nB];omega
 | f+1,i,h=>by
  rw[nB];cases hx:l[i]? with
  | none=>simp only;omega
  | some x=>
   have hlt:i<l.length:=(cH.1 hx).1;have h1:=endF_gt l f (i+1) (by omega)
   simp only;split
   ·omega
   ·split
    ·omega
    ·split
     ·split
      ·rename_i h';have:=endF_gt l f _ h';omega
      ·omega
     ·omega
theorem endF_le{l:List Nd}(hg:jP l):∀(f i:Nat),nB l f i≤l.length+1
 | 0,i=>by rw[nB];omega
 | f+1,i=>by
  rw[nB];cases hx:l[i]? with
  | none=>simp only;omega
  | some x=>
   obtain⟨hlt,rfl⟩:=cH.1 hx;have h1:=endF_le hg f (i+1);simp only;split
   ·rename_i h3;have:=hg.ls i hlt h3;omega
   ·split
    ·exact h1
    ·split
     ·split
      ·exact endF_le hg f _
      ·exact h1
     ·omega
theorem tY(l:List Nd):∀(f g i:Nat),l.length+1≤f+i→l.length+1≤g+i→nB l f i=nB l g i
 | 0,0,i,_,_=>rfl
 | 0,g+1,i,h,_=>by rw[nB,nB,gO (by omega)]
 | f+1,0,i,_,h=>by rw[nB,nB,gO (by omega)]
 | f+1,g+1,i,hf,hg=>by
  rw[nB,nB];cases hx:l[i]? with
  | none=>rfl
  | some x=>
   have hlt:i<l.length:=(cH.1 hx).1;simp only;have e1:=tY l f g (i+1) (by omega) (by omega)
   have h1:=endF_gt l g (i+1) (by omega)
   rw[e1,tY l f g (nB l g (i+1)) (by omega) (by omega)]
def eN(l:List Nd)(i:Nat):Nat:=nB l (l.length+1) i
theorem eN_gt{l:List Nd}{i:Nat}(h:i≤l.length):i<eN l i:=endF_gt l _ i h
theorem eN_le{l:List Nd}(hg:jP l)(i:Nat):eN l i≤l.length+1:=endF_le hg _ i
theorem eN_ge{l:List Nd}{i:Nat}(h:l.length≤i):eN l i=l.length+1:=by rw[eN,nB,gO h]
theorem eN_eq{l:List Nd}{i:Nat}(h:i<l.length):eN l i=if l[i].kind=3 then i+1+l[i].kids.toNat else if fA l[i]=1 then eN l (i+1) else if fA l[i]=2 then(if eN l (i+1)≤l.length then eN l (eN l (i+1)) else eN l (i+1)) else i+1:=by
 have h1:nB l l.length (i+1)=eN l (i+1):=tY l _ _ _ (by omega) (by omega)
 have h2:=eN_gt (l:=l) (i:=i+1) (by omega)
 have h3:nB l l.length (eN l (i+1))=eN l (eN l (i+1)):=tY l _ _ _ (by omega) (by omega)
 rw[eN,nB,aJ h];simp only;rw[h1,h3]
theorem oE{x:Nd}(h:oR x):fA x=0∨fA x=1∨fA x=2:=by
 unfold fA;split
 ·rename_i k;have:=h.kp k;omega
 ·exact .inl rfl
def jI(k:Nat):List D:=[.int .i64 (k:Int)]
theorem uA:EncG 1 jI:=⟨fun _=>rfl,by decide,fun _=>rfl,fun _ _ _ _=>rfl⟩
def kidsL(l:List Nd)(i:Nat):List Nat:=match l[i]? with
 | none=>[]
 | some x=>if fA x=1 then[i+1]else if fA x=2 then[i+1,eN l (i+1)] else[]
theorem kidsL_eq{l:List Nd}{i:Nat}(h:i<l.length):kidsL l i=if fA l[i]=1 then[i+1]else if fA l[i]=2 then[i+1,eN l (i+1)] else[]:=by rw[kidsL,aJ h]
theorem kids_in{l:List Nd}(hg:jP l){i:Nat}(h:i<l.length)(he:eN l i≤l.length):∀k∈kidsL l i,i<k∧k<l.length∧eN l k≤l.length:=by
 have hE:=eN_eq h;have hgt:=eN_gt (l:=l) (i:=i+1) (by omega)
 have n3:fA l[i]=1∨fA l[i]=2→¬l[i].kind=3:=by
  intro hm k;unfold fA at hm;rw[aD (by omega)]at hm;omega
 have ok:∀k,k≤l.length→eN l k≤l.length→k<l.length:=fun k h1 h2=>by
  refine Classical.byContradiction fun h=>?_
  rw[eN_ge (by omega)]at h2;omega
 rw[kidsL_eq h];rcases oE (hg.nd i h) with hm|hm|hm
 ·rw[hm];simp
 ·rw[aD (n3 (.inl hm)),hm,aH rfl]at hE;rw[hm,aH rfl];intro k hk;rw[dJ.1 hk,←hE];exact⟨by omega,ok _ (by omega) (by rw[←hE];exact he),he⟩
 ·rw[aD (n3 (.inr hm)),hm,aD (by decide),aH rfl]at hE
  rw[hm,aD (by decide),aH rfl]
  have h1:eN l (i+1)≤l.length:=by
   refine Classical.byContradiction fun h'=>?_
   rw[aD h']at hE;omega
  rw[aH h1]at hE;intro k hk;rcases bN.1 hk with rfl|hk
  ·exact⟨by omega,ok _ (by omega) h1,h1⟩
  ·rw[dJ.1 hk];exact⟨by omega,ok _ h1 (by omega),by omega⟩
structure Lt (ss:List (List UInt8)) (us:List Nat) (d e:D):Prop where
 d:Sl 1 hY ss d
 e:Sl 1 u8C us e
 u:iL us
 s:pX ss
 c:CHK ss us=e2 0 0
 l:us.length=ss.length
 h1:1≤ss.length
 h8:ss.length≤8
def J(us:List Nat)(a b:Nat):Nat:=(kC (uM us) us.length a b).toNat
theorem Lt.j{ss:List (List UInt8)}{us:List Nat}{d e:D}(h:Lt ss us d e){a b:Nat}(ha:a<us.length)(hb:b<us.length):kC (uM us) us.length a b=(J us a b:Nat)∧J us a b<us.length:=by
 obtain⟨k,h1,h2⟩:=near_nat h.c (h.l▸ha) (h.l▸hb)
 unfold J;rw[h.l,h1];exact⟨rfl,by rw[cW];exact h2⟩
def jF(us:List Nat)(b:Nat)(l:List Nat):Nat:=l.foldl (J us) b
theorem Lt.jF{ss:List (List UInt8)}{us:List Nat}{d e:D}(h:Lt ss us d e):∀{l:List Nat} {b:Nat},b<us.length→(∀x∈l,x<us.length)→Zv.jF us b l<us.length
 | [],b,hb,_=>hb
 | a::l,b,hb,hl=>Lt.jF h (l:=l) (h.j hb (hl a (bL ..))).2 fun x hx=>hl x (bJ _ hx)
theorem jF_step(us:List Nat)(b:Nat)(l:List Nat){i:Nat}(hi:i<l.length):jF us b (l.take (i+1))=J us (jF us b (l.take i)) l[i]:=by
 unfold jF;rw[List.take_succ_eq_append_getElem hi,List.foldl_append];rfl
def lkC(d e:D)(a b:Ty)(bot:Nat):List D:=[d,e,.int .i64 a.kind,.int .i64 a.rank,.int .i64 a.a0,.int .i64 a.a1,.int .i64 a.data,.int .i64 b.kind,.int .i64 b.rank,.int .i64 b.a0,.int .i64 b.a1,.int .i64 b.data,.int .i64 (bot:Nat)]
theorem c278(n:Nat){ss:List (List UInt8)}{us:List Nat}{d e q:D}(h:Lt ss us d e)(a b:Ty){bot:Nat}(hb:bot<us.length){ls:List Nat}(hq:Sl 1 jI ls q)(hl:∀x∈ls,x<us.length)(h63:ls.length<9223372036854775807):
  cl (n+1) 278 [.agg (lkC d e a b bot),q]=some (.int .i64 (jF us bot ls:Nat),true):=by
 rw[cN (A:=A278) rfl (n+1) _ rfl,show A278.body=B278 from rfl]
 unfold B278 lkC;have h8:=h.h8;have hul:=h.l;have hx:∀c (hc:c<us.length),us[c]=uM us c:=fun c hc=>(jV hc 0).symm
 simp only[z0,seval,h.d.nag,h.e.nag,hq.len];generalize hz:zloop KK _ _=rl;refine zrange rl hz ls.length (fI h63) h63 (fun i t s c=>sget s 0=some (.fix 234 (lkC d e a b bot))∧tget t 2 = .ptr 0 0∧tget t 10=q∧tget t 5 = .int .i64 (jF us bot (ls.take i):Nat)) (by decide) (by simp[aE]) (by simp[aE]) (by simp[aE,lkC];rfl) ?_ ?_
 ·rintro i t s c hi ⟨s0,q2,q10,q5⟩ hti htn;have hg:jF us bot (ls.take i)<us.length:=h.jF hb fun x hx=>hl x (eQ hx)
  have hm:=hl _ (cA hi);have h69:=c69 n h.e (by omega) (jF us bot (ls.take i)) ls[i]
  rw[jF_step us bot ls hi];generalize jF us bot (ls.take i)=o at *;obtain⟨j1,j2⟩:=h.j hg hm;rw[j1]at h69;unfold lkC at s0
  simp only[z0,seval,s0,q2,q10,q5,hti,htn,hq.ia1 hi,hq.at1 hi,jI,dU,cP,iH,nY,AOp.kd,fU,iM,iA,gY,fV,eS,dE,eO,h.e.ia1 hg,h.e.at1 hg,h.e.ia1 hm,h.e.at1 hm,u8C,hx _ hg,hx _ hm,iJ (mD h.u o) (mD h.u ls[i]),aF (f:=69) rfl,aQ,h.e.fz,h69]
  exact⟨trivial,trivial,trivial,.inr (.inr trivial),nofun,nofun,rfl,trivial,trivial,trivial⟩
 ·rintro t s c ⟨s0,q2,q10,q5⟩ hti htn;rw[List.take_length]at q5;simp only[z0,seval,q5,A278];rfl
structure Tl where
 k:Int
 r:Int
 x:Nat
 y:Nat
 z:Nat
def tl(t:Tl):Ty:=⟨t.k,t.r,t.x,t.y,t.z⟩
def Tl.ok(n:Nat)(t:Tl):Prop:=t.x<n∧t.y<n∧t.z<n
theorem pF(ex:Bool)(a b:Nat):Sl 1 jI [a,b] (.sl ex 2 [.int .i64 (a:Int),.int .i64 (b:Int)]):=⟨fun r hr=>by simp[jI]at hr;rcases hr with rfl|rfl<;>rfl,.inr ⟨ex,rfl⟩⟩
theorem mem2{n a b:Nat}(ha:a<n)(hb:b<n):∀x∈[a,b],x<n:=fun x hx=>by
 rcases bN.1 hx with rfl|hx
 ·exact ha
 ·exact(dJ.1 hx)▸hb
theorem b2:fL 2 2 none=some 2∧fL 2 0 none=some 0:=⟨rfl,rfl⟩
section
variable (n:Nat) {ss:List (List UInt8)} {us:List Nat} {d e:D} (h:Lt ss us d e) (a b:Tl) {bot:Nat} (hb:bot<us.length) (ha:a.ok us.length) (hb':b.ok us.length)
include h hb ha hb'
theorem c276:cl (n+2) 276 [.agg (lkC d e (tl a) (tl b) bot)]=some (.int .i64 (jF us bot [a.z,b.z]:Nat),true):=by
 rw[cN (A:=A276) rfl (n+2) _ rfl,show A276.body=B276 from rfl]
 simp only[B276,Ab.abq];have h278:=c278 n h (tl a) (tl b) hb (pF true a.z b.z) (mem2 ha.2.2 hb'.2.2) (show 2<9223372036854775807 by decide)
 unfold lkC tl at *;simp only[z0,seval,h.d.nag,h.e.nag,aF (f:=278) rfl,aQ,h.d.fz,h.e.fz,h278,iI,Nat.reduceMul,aI,aR,A276];rfl
theorem c279(t:Tl)(ht:t.ok us.length):cl (n+2) 279 [.agg (lkC d e (tl a) (tl b) bot),.agg (tyC (tl t))]=some (.int .i64 (jF us bot [t.x,t.y]:Nat),true):=by
 have _h1:=ha;have _h2:=hb';rw[cN (A:=A279) rfl (n+2) _ rfl,show A279.body=B279 from rfl]
 simp only[B279,Ab.abq];have h278:=c278 n h (tl a) (tl b) hb (pF true t.x t.y) (mem2 ht.1 ht.2.1) (show 2<9223372036854775807 by decide)
 unfold lkC tl tyC at *;simp only[z0,seval,h.d.nag,h.e.nag,dU,cP,AOp.kd,zop,tks,bV,dO,cU,eC,eR,b2,dW,bS,aN,aF (f:=278) rfl,aQ,h.d.fz,h.e.fz,h278,iI,Nat.reduceMul,fC,Nat.reduceAdd,Nat.reduceLeDiff,aI,aR,A279];rfl
theorem c277:cl (n+3) 277 [.agg (lkC d e (tl a) (tl b) bot)]=some (.int .i64 (jF us bot [jF us bot [a.x,a.y],jF us bot [b.x,b.y]]:Nat),true):=by
 rw[cN (A:=A277) rfl (n+3) _ rfl,show A277.body=B277 from rfl]
 simp only[B277,Ab.abq];have h1:=c279 n h a b hb ha hb' a ha;have h2:=c279 n h a b hb ha hb' b hb';have h278:=c278 (n+1) h (tl a) (tl b) hb (pF true (jF us bot [a.x,a.y]) (jF us bot [b.x,b.y])) (mem2 (h.jF hb (mem2 ha.1 ha.2.1)) (h.jF hb (mem2 hb'.1 hb'.2.1))) (show 2<9223372036854775807 by decide)
 unfold lkC tl tyC at *;simp only[z0,seval,h.d.nag,h.e.nag,dU,cP,AOp.kd,zop,tks,bV,dO,cU,eC,eR,b2,dW,bS,aN,aF (f:=278) rfl,aF (f:=279) rfl,aQ,h.d.fz,h.e.fz,h1,h2,h278,iI,Nat.reduceMul,aI,aR,A277];rfl
def sJ(us:List Nat)(bot:Nat)(t:Tl):Nat:=jF us bot [t.x,t.y]
def cJ(us:List Nat)(bot:Nat)(a b:Tl):Nat:=jF us bot [sJ us bot a,sJ us bot b]
def ruD(p q z w c:Int):D:=.agg [.int .i64 0,.int .i64 0,.int .i64 p,.int .i64 q,.int .i64 z,.int .i64 w,.int .i64 c]
theorem c275(p q z w:Int):cl (n+4) 275 [.agg (lkC d e (tl a) (tl b) bot),.agg [.int .i64 p,.int .i64 q],.int .i64 z,.int .i64 w]=some (ruD p q z w (cJ us bot a b:Nat),true):=by
 rw[cN (A:=A275) rfl (n+4) _ rfl,show A275.body=B275 from rfl]
 simp only[B275,Ab.abq];have h1:=c277 n h a b hb ha hb';unfold lkC tl at *;simp only[z0,seval,h.d.nag,h.e.nag,dU,cP,AOp.kd,zop,tks,bV,dO,cU,fW,aF (f:=277) rfl,aQ,h.d.fz,h.e.fz,h1,A275];rfl
theorem c280:cl (n+2) 280 [.agg (lkC d e (tl a) (tl b) bot)]=some (.agg [.int .i64 (jF us bot [a.x,b.x]:Nat),.int .i64 (jF us bot [a.y,b.y]:Nat)],true):=by
 rw[cN (A:=A280) rfl (n+2) _ rfl,show A280.body=B280 from rfl]
 simp only[B280,Ab.abq];have h1:=c278 n h (tl a) (tl b) hb (pF true a.x b.x) (mem2 ha.1 hb'.1) (show 2<9223372036854775807 by decide)
 have h2:=c278 n h (tl a) (tl b) hb (pF true a.y b.y) (mem2 ha.2.1 hb'.2.1) (show 2<9223372036854775807 by decide)
 unfold lkC tl at *;have i0:kG 2 (.int .i64 0)=some 0:=rfl;have i1:kG 2 (.int .i64 1)=some 1:=rfl
 simp only[z0,seval,h.d.nag,h.e.nag,zun,i0,i1,Int.reduceLT,Int.reduceAdd,nb,dU,cP,AOp.kd,zop,tks,bV,dO,cU,eR,dW,bS,aN,show cT .i64 1=1 from rfl,show cT .i64 2=2 from rfl,aF (f:=278) rfl,aQ,h.d.fz,h.e.fz,h1,h2,iI,Nat.reduceMul,Nat.reduceAdd,aI,aR,A280]
 rfl
end
def Rg(m:Nat)(x:Int):Prop:=∃k:Nat,x=k∧k<m
theorem rgN{m k:Nat}(h:k<m):Rg m (k:Int):=⟨k,rfl,h⟩
theorem rg0{m:Nat}(h:0<m):Rg m 0:=⟨0,rfl,h⟩
def uF(m n f:Nat)(l:List D):Prop:=∃p q z w c:Int,cl n f [.agg l]=some (ruD p q z w c,true)∧Rg m p∧Rg m q∧Rg m z∧Rg m w∧Rg m c
theorem i20:kG 2 (.int .i64 0)=some 0∧kG 2 (.int .i64 1)=some 1:=⟨rfl,rfl⟩
section
variable (n:Nat) {ss:List (List UInt8)} {us:List Nat} {d e:D} (h:Lt ss us d e) (a b:Tl) {bot:Nat} (hb:bot<us.length) (ha:a.ok us.length) (hb':b.ok us.length)
include h hb ha hb'
theorem r216:uF us.length (n+5) 216 (lkC d e (tl a) (tl b) bot):=by
 have h275:=fun p q z w=>c275 n h a b hb ha hb' p q z w
 have h276:=c276 (n+2) h a b hb ha hb';have h277:=c277 (n+1) h a b hb ha hb';have h280:=c280 (n+2) h a b hb ha hb';have ha9:=c279 (n+2) h a b hb ha hb' a ha;have hb9:=c279 (n+2) h a b hb ha hb' b hb';have hsa:=h.jF hb (mem2 ha.1 ha.2.1);have hsb:=h.jF hb (mem2 hb'.1 hb'.2.1);have hcJ:cJ us bot a b<us.length:=h.jF hb (mem2 hsa hsb)
 refine⟨a.x,a.y,(jF us bot [a.z,b.z]:Nat),(jF us bot [a.z,b.z]:Nat),(cJ us bot a b:Nat),?_,rgN ha.1,rgN ha.2.1,rgN (h.jF hb (mem2 ha.2.2 hb'.2.2)),rgN (h.jF hb (mem2 ha.2.2 hb'.2.2)),rgN hcJ⟩;rw[cN (A:=A216) rfl (n+5) _ rfl,show A216.body=B216 from rfl]
 simp only[B216,Ab.abq];unfold lkC tl tyC at *
 simp only[z0,seval,h.d.nag,h.e.nag,dU,cP,AOp.kd,zop,tks,bV,dO,cU,eC,eR,fW,b2,i20,dW,bS,aN,aF (f:=275) rfl,aF (f:=276) rfl,aF (f:=277) rfl,aF (f:=278) rfl,aF (f:=279) rfl,aF (f:=280) rfl,aQ,h.d.fz,h.e.fz,h275,h276,h277,h280,ha9,hb9,iI,Nat.reduceMul,fC,Nat.reduceAdd,Nat.reduceLeDiff,aI,aR,ruD,A216]
 try rfl
theorem r217:uF us.length (n+5) 217 (lkC d e (tl a) (tl b) bot):=by
 have h275:=fun p q z w=>c275 n h a b hb ha hb' p q z w
 have h276:=c276 (n+2) h a b hb ha hb';have h277:=c277 (n+1) h a b hb ha hb';have h280:=c280 (n+2) h a b hb ha hb';have ha9:=c279 (n+2) h a b hb ha hb' a ha;have hb9:=c279 (n+2) h a b hb ha hb' b hb';have hsa:=h.jF hb (mem2 ha.1 ha.2.1);have hsb:=h.jF hb (mem2 hb'.1 hb'.2.1);have hcJ:cJ us bot a b<us.length:=h.jF hb (mem2 hsa hsb)
 refine⟨a.x,a.y,(jF us bot [a.z,b.z]:Nat),bot,(cJ us bot a b:Nat),?_,rgN ha.1,rgN ha.2.1,rgN (h.jF hb (mem2 ha.2.2 hb'.2.2)),rgN hb,rgN hcJ⟩;rw[cN (A:=A217) rfl (n+5) _ rfl,show A217.body=B217 from rfl]
 simp only[B217,Ab.abq];unfold lkC tl tyC at *
 simp only[z0,seval,h.d.nag,h.e.nag,dU,cP,AOp.kd,zop,tks,bV,dO,cU,eC,eR,fW,b2,i20,dW,bS,aN,aF (f:=275) rfl,aF (f:=276) rfl,aF (f:=277) rfl,aF (f:=278) rfl,aF (f:=279) rfl,aF (f:=280) rfl,aQ,h.d.fz,h.e.fz,h275,h276,h277,h280,ha9,hb9,iI,Nat.reduceMul,fC,Nat.reduceAdd,Nat.reduceLeDiff,aI,aR,ruD,A217]
 try rfl
theorem r218:uF us.length (n+5) 218 (lkC d e (tl a) (tl b) bot):=by
 have h275:=fun p q z w=>c275 n h a b hb ha hb' p q z w
 have h276:=c276 (n+2) h a b hb ha hb';have h277:=c277 (n+1) h a b hb ha hb';have h280:=c280 (n+2) h a b hb ha hb';have ha9:=c279 (n+2) h a b hb ha hb' a ha;have hb9:=c279 (n+2) h a b hb ha hb' b hb';have hsa:=h.jF hb (mem2 ha.1 ha.2.1);have hsb:=h.jF hb (mem2 hb'.1 hb'.2.1);have hcJ:cJ us bot a b<us.length:=h.jF hb (mem2 hsa hsb)
 refine⟨bot,bot,(cJ us bot a b:Nat),bot,(cJ us bot a b:Nat),?_,rgN hb,rgN hb,rgN hcJ,rgN hb,rgN hcJ⟩;rw[cN (A:=A218) rfl (n+5) _ rfl,show A218.body=B218 from rfl]
 simp only[B218,Ab.abq];unfold lkC tl tyC at *
 simp only[z0,seval,h.d.nag,h.e.nag,dU,cP,AOp.kd,zop,tks,bV,dO,cU,eC,eR,fW,b2,i20,dW,bS,aN,aF (f:=275) rfl,aF (f:=276) rfl,aF (f:=277) rfl,aF (f:=278) rfl,aF (f:=279) rfl,aF (f:=280) rfl,aQ,h.d.fz,h.e.fz,h275,h276,h277,h280,ha9,hb9,iI,Nat.reduceMul,fC,Nat.reduceAdd,Nat.reduceLeDiff,aI,aR,ruD,A218]
 try rfl
theorem r219:uF us.length (n+5) 219 (lkC d e (tl a) (tl b) bot):=by
 have h275:=fun p q z w=>c275 n h a b hb ha hb' p q z w
 have h276:=c276 (n+2) h a b hb ha hb';have h277:=c277 (n+1) h a b hb ha hb';have h280:=c280 (n+2) h a b hb ha hb';have ha9:=c279 (n+2) h a b hb ha hb' a ha;have hb9:=c279 (n+2) h a b hb ha hb' b hb';have hsa:=h.jF hb (mem2 ha.1 ha.2.1);have hsb:=h.jF hb (mem2 hb'.1 hb'.2.1);have hcJ:cJ us bot a b<us.length:=h.jF hb (mem2 hsa hsb)
 refine⟨(cJ us bot a b:Nat),0,(jF us bot [a.z,b.z]:Nat),bot,(cJ us bot a b:Nat),?_,rgN hcJ,rg0 (Nat.lt_of_le_of_lt (dD _) hb),rgN (h.jF hb (mem2 ha.2.2 hb'.2.2)),rgN hb,rgN hcJ⟩;rw[cN (A:=A219) rfl (n+5) _ rfl,show A219.body=B219 from rfl]
 simp only[B219,Ab.abq];unfold lkC tl tyC at *
 simp only[z0,seval,h.d.nag,h.e.nag,dU,cP,AOp.kd,zop,tks,bV,dO,cU,eC,eR,fW,b2,i20,dW,bS,aN,aF (f:=275) rfl,aF (f:=276) rfl,aF (f:=277) rfl,aF (f:=278) rfl,aF (f:=279) rfl,aF (f:=280) rfl,aQ,h.d.fz,h.e.fz,h275,h276,h277,h280,ha9,hb9,iI,Nat.reduceMul,fC,Nat.reduceAdd,Nat.reduceLeDiff,aI,aR,ruD,A219]
 try rfl
theorem r220:uF us.length (n+5) 220 (lkC d e (tl a) (tl b) bot):=by
 have h275:=fun p q z w=>c275 n h a b hb ha hb' p q z w
 have h276:=c276 (n+2) h a b hb ha hb';have h277:=c277 (n+1) h a b hb ha hb';have h280:=c280 (n+2) h a b hb ha hb';have ha9:=c279 (n+2) h a b hb ha hb' a ha;have hb9:=c279 (n+2) h a b hb ha hb' b hb';have hsa:=h.jF hb (mem2 ha.1 ha.2.1);have hsb:=h.jF hb (mem2 hb'.1 hb'.2.1);have hcJ:cJ us bot a b<us.length:=h.jF hb (mem2 hsa hsb)
 refine⟨a.y,a.x,(jF us bot [a.z,b.z]:Nat),bot,(cJ us bot a b:Nat),?_,rgN ha.2.1,rgN ha.1,rgN (h.jF hb (mem2 ha.2.2 hb'.2.2)),rgN hb,rgN hcJ⟩;rw[cN (A:=A220) rfl (n+5) _ rfl,show A220.body=B220 from rfl]
 simp only[B220,Ab.abq];unfold lkC tl tyC at *
 simp only[z0,seval,h.d.nag,h.e.nag,dU,cP,AOp.kd,zop,tks,bV,dO,cU,eC,eR,fW,b2,i20,dW,bS,aN,aF (f:=275) rfl,aF (f:=276) rfl,aF (f:=277) rfl,aF (f:=278) rfl,aF (f:=279) rfl,aF (f:=280) rfl,aQ,h.d.fz,h.e.fz,h275,h276,h277,h280,ha9,hb9,iI,Nat.reduceMul,fC,Nat.reduceAdd,Nat.reduceLeDiff,aI,aR,ruD,A220]
 try rfl
theorem r222:uF us.length (n+5) 222 (lkC d e (tl a) (tl b) bot):=by
 have h275:=fun p q z w=>c275 n h a b hb ha hb' p q z w
 have h276:=c276 (n+2) h a b hb ha hb';have h277:=c277 (n+1) h a b hb ha hb';have h280:=c280 (n+2) h a b hb ha hb';have ha9:=c279 (n+2) h a b hb ha hb' a ha;have hb9:=c279 (n+2) h a b hb ha hb' b hb';have hsa:=h.jF hb (mem2 ha.1 ha.2.1);have hsb:=h.jF hb (mem2 hb'.1 hb'.2.1);have hcJ:cJ us bot a b<us.length:=h.jF hb (mem2 hsa hsb)
 refine⟨a.x,a.y,(jF us bot [a.z,b.z]:Nat),(cJ us bot a b:Nat),(cJ us bot a b:Nat),?_,rgN ha.1,rgN ha.2.1,rgN (h.jF hb (mem2 ha.2.2 hb'.2.2)),rgN hcJ,rgN hcJ⟩;rw[cN (A:=A222) rfl (n+5) _ rfl,show A222.body=B222 from rfl]
 simp only[B222,Ab.abq];unfold lkC tl tyC at *
 simp only[z0,seval,h.d.nag,h.e.nag,dU,cP,AOp.kd,zop,tks,bV,dO,cU,eC,eR,fW,b2,i20,dW,bS,aN,aF (f:=275) rfl,aF (f:=276) rfl,aF (f:=277) rfl,aF (f:=278) rfl,aF (f:=279) rfl,aF (f:=280) rfl,aQ,h.d.fz,h.e.fz,h275,h276,h277,h280,ha9,hb9,iI,Nat.reduceMul,fC,Nat.reduceAdd,Nat.reduceLeDiff,aI,aR,ruD,A222]
 try rfl
theorem r223:uF us.length (n+5) 223 (lkC d e (tl a) (tl b) bot):=by
 have h275:=fun p q z w=>c275 n h a b hb ha hb' p q z w
 have h276:=c276 (n+2) h a b hb ha hb';have h277:=c277 (n+1) h a b hb ha hb';have h280:=c280 (n+2) h a b hb ha hb';have ha9:=c279 (n+2) h a b hb ha hb' a ha;have hb9:=c279 (n+2) h a b hb ha hb' b hb';have hsa:=h.jF hb (mem2 ha.1 ha.2.1);have hsb:=h.jF hb (mem2 hb'.1 hb'.2.1);have hcJ:cJ us bot a b<us.length:=h.jF hb (mem2 hsa hsb)
 refine⟨a.x,a.y,(cJ us bot a b:Nat),bot,(cJ us bot a b:Nat),?_,rgN ha.1,rgN ha.2.1,rgN hcJ,rgN hb,rgN hcJ⟩;rw[cN (A:=A223) rfl (n+5) _ rfl,show A223.body=B223 from rfl]
 simp only[B223,Ab.abq];unfold lkC tl tyC at *
 simp only[z0,seval,h.d.nag,h.e.nag,dU,cP,AOp.kd,zop,tks,bV,dO,cU,eC,eR,fW,b2,i20,dW,bS,aN,aF (f:=275) rfl,aF (f:=276) rfl,aF (f:=277) rfl,aF (f:=278) rfl,aF (f:=279) rfl,aF (f:=280) rfl,aQ,h.d.fz,h.e.fz,h275,h276,h277,h280,ha9,hb9,iI,Nat.reduceMul,fC,Nat.reduceAdd,Nat.reduceLeDiff,aI,aR,ruD,A223]
 try rfl
theorem r224:uF us.length (n+5) 224 (lkC d e (tl a) (tl b) bot):=by
 have h275:=fun p q z w=>c275 n h a b hb ha hb' p q z w
 have h276:=c276 (n+2) h a b hb ha hb';have h277:=c277 (n+1) h a b hb ha hb';have h280:=c280 (n+2) h a b hb ha hb';have ha9:=c279 (n+2) h a b hb ha hb' a ha;have hb9:=c279 (n+2) h a b hb ha hb' b hb';have hsa:=h.jF hb (mem2 ha.1 ha.2.1);have hsb:=h.jF hb (mem2 hb'.1 hb'.2.1);have hcJ:cJ us bot a b<us.length:=h.jF hb (mem2 hsa hsb)
 have h278:=c278 (n+3) h (tl a) (tl b) hb (pF true a.z (jF us bot [b.x,b.y])) (mem2 ha.2.2 hsb) (show 2<9223372036854775807 by decide)
 refine⟨(jF us bot [a.z,jF us bot [b.x,b.y]]:Nat),0,(jF us bot [a.z,b.z]:Nat),bot,(cJ us bot a b:Nat),?_,rgN (h.jF hb (mem2 ha.2.2 hsb)),rg0 (Nat.lt_of_le_of_lt (dD _) hb),rgN (h.jF hb (mem2 ha.2.2 hb'.2.2)),rgN hb,rgN hcJ⟩;rw[cN (A:=A224) rfl (n+5) _ rfl,show A224.body=B224 from rfl]
 simp only[B224,Ab.abq];unfold lkC tl tyC at *
 simp only[z0,seval,h.d.nag,h.e.nag,dU,cP,AOp.kd,zop,tks,bV,dO,cU,eC,eR,fW,b2,i20,dW,bS,aN,aF (f:=275) rfl,aF (f:=276) rfl,aF (f:=277) rfl,aF (f:=278) rfl,aF (f:=279) rfl,aF (f:=280) rfl,aQ,h.d.fz,h.e.fz,h275,h276,h277,h280,ha9,hb9,iI,Nat.reduceMul,fC,Nat.reduceAdd,Nat.reduceLeDiff,aI,aR,h278,ruD,A224]
 try rfl
theorem r226:uF us.length (n+5) 226 (lkC d e (tl a) (tl b) bot):=by
 have h275:=fun p q z w=>c275 n h a b hb ha hb' p q z w
 have h276:=c276 (n+2) h a b hb ha hb';have h277:=c277 (n+1) h a b hb ha hb';have h280:=c280 (n+2) h a b hb ha hb';have ha9:=c279 (n+2) h a b hb ha hb' a ha;have hb9:=c279 (n+2) h a b hb ha hb' b hb';have hsa:=h.jF hb (mem2 ha.1 ha.2.1);have hsb:=h.jF hb (mem2 hb'.1 hb'.2.1);have hcJ:cJ us bot a b<us.length:=h.jF hb (mem2 hsa hsb)
 refine⟨(jF us bot [a.x,b.x]:Nat),(jF us bot [a.y,b.y]:Nat),(jF us bot [a.z,b.z]:Nat),(cJ us bot a b:Nat),(cJ us bot a b:Nat),?_,rgN (h.jF hb (mem2 ha.1 hb'.1)),rgN (h.jF hb (mem2 ha.2.1 hb'.2.1)),rgN (h.jF hb (mem2 ha.2.2 hb'.2.2)),rgN hcJ,rgN hcJ⟩;rw[cN (A:=A226) rfl (n+5) _ rfl,show A226.body=B226 from rfl]
 simp only[B226,Ab.abq];unfold lkC tl tyC at *
 simp only[z0,seval,h.d.nag,h.e.nag,dU,cP,AOp.kd,zop,tks,bV,dO,cU,eC,eR,fW,b2,i20,dW,bS,aN,aF (f:=275) rfl,aF (f:=276) rfl,aF (f:=277) rfl,aF (f:=278) rfl,aF (f:=279) rfl,aF (f:=280) rfl,aQ,h.d.fz,h.e.fz,h275,h276,h277,h280,ha9,hb9,iI,Nat.reduceMul,fC,Nat.reduceAdd,Nat.reduceLeDiff,aI,aR,ruD,A226]
 try rfl
theorem r227:uF us.length (n+5) 227 (lkC d e (tl a) (tl b) bot):=by
 have h275:=fun p q z w=>c275 n h a b hb ha hb' p q z w
 have h276:=c276 (n+2) h a b hb ha hb';have h277:=c277 (n+1) h a b hb ha hb';have h280:=c280 (n+2) h a b hb ha hb';have ha9:=c279 (n+2) h a b hb ha hb' a ha;have hb9:=c279 (n+2) h a b hb ha hb' b hb';have hsa:=h.jF hb (mem2 ha.1 ha.2.1);have hsb:=h.jF hb (mem2 hb'.1 hb'.2.1);have hcJ:cJ us bot a b<us.length:=h.jF hb (mem2 hsa hsb)
 have h278:=c278 (n+3) h (tl a) (tl b) hb (pF true (jF us bot [a.x,a.y]) b.z) (mem2 hsa hb'.2.2) (show 2<9223372036854775807 by decide)
 refine⟨b.x,b.y,(jF us bot [a.z,b.z]:Nat),(jF us bot [jF us bot [a.x,a.y],b.z]:Nat),(cJ us bot a b:Nat),?_,rgN hb'.1,rgN hb'.2.1,rgN (h.jF hb (mem2 ha.2.2 hb'.2.2)),rgN (h.jF hb (mem2 hsa hb'.2.2)),rgN hcJ⟩;rw[cN (A:=A227) rfl (n+5) _ rfl,show A227.body=B227 from rfl]
 simp only[B227,Ab.abq];unfold lkC tl tyC at *
 simp only[z0,seval,h.d.nag,h.e.nag,dU,cP,AOp.kd,zop,tks,bV,dO,cU,eC,eR,fW,b2,i20,dW,bS,aN,aF (f:=275) rfl,aF (f:=276) rfl,aF (f:=277) rfl,aF (f:=278) rfl,aF (f:=279) rfl,aF (f:=280) rfl,aQ,h.d.fz,h.e.fz,h275,h276,h277,h280,ha9,hb9,iI,Nat.reduceMul,fC,Nat.reduceAdd,Nat.reduceLeDiff,aI,aR,h278,ruD,A227]
 try rfl
theorem r228:uF us.length (n+5) 228 (lkC d e (tl a) (tl b) bot):=by
 have h275:=fun p q z w=>c275 n h a b hb ha hb' p q z w
 have h276:=c276 (n+2) h a b hb ha hb';have h277:=c277 (n+1) h a b hb ha hb';have h280:=c280 (n+2) h a b hb ha hb';have ha9:=c279 (n+2) h a b hb ha hb' a ha;have hb9:=c279 (n+2) h a b hb ha hb' b hb';have hsa:=h.jF hb (mem2 ha.1 ha.2.1);have hsb:=h.jF hb (mem2 hb'.1 hb'.2.1);have hcJ:cJ us bot a b<us.length:=h.jF hb (mem2 hsa hsb)
 have h278:=c278 (n+3) h (tl a) (tl b) hb (pF true a.z (jF us bot [b.x,b.y])) (mem2 ha.2.2 hsb) (show 2<9223372036854775807 by decide)
 refine⟨(jF us bot [a.z,jF us bot [b.x,b.y]]:Nat),0,(jF us bot [a.z,b.z]:Nat),(cJ us bot a b:Nat),(cJ us bot a b:Nat),?_,rgN (h.jF hb (mem2 ha.2.2 hsb)),rg0 (Nat.lt_of_le_of_lt (dD _) hb),rgN (h.jF hb (mem2 ha.2.2 hb'.2.2)),rgN hcJ,rgN hcJ⟩;rw[cN (A:=A228) rfl (n+5) _ rfl,show A228.body=B228 from rfl]
 simp only[B228,Ab.abq];unfold lkC tl tyC at *
 simp only[z0,seval,h.d.nag,h.e.nag,dU,cP,AOp.kd,zop,tks,bV,dO,cU,eC,eR,fW,b2,i20,dW,bS,aN,aF (f:=275) rfl,aF (f:=276) rfl,aF (f:=277) rfl,aF (f:=278) rfl,aF (f:=279) rfl,aF (f:=280) rfl,aQ,h.d.fz,h.e.fz,h275,h276,h277,h280,ha9,hb9,iI,Nat.reduceMul,fC,Nat.reduceAdd,Nat.reduceLeDiff,aI,aR,h278,ruD,A228]
 try rfl
end
end
end Zv
