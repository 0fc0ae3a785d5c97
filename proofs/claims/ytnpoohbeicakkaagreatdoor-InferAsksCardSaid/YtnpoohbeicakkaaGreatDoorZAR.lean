/- What functions come to: runes are counted. Conditions: none. -/
import Derived.Test.YtnpoohbeicakkaaGreatDoorZAQ
import Derived.Lib.MapLaws
set_option linter.unusedVariables false
set_option linter.unusedSimpArgs false
set_option maxRecDepth 100000
set_option linter.unnecessarySimpa false
namespace Zv
open Go
noncomputable section
open Go.Lib (decodeN decodeL)
variable {s:List UInt8} {m c:Nat} {st:St} {cx:Cx} {t:Tm} {er ar:Int} {b:Bool}
def cntG:Nat→List UInt8→Option Nat
 | 0,_=>some 0
 | n+1,l=>if l=[]then some 0 else if decodeL l=(65533,1) then none else(cntG n (l.drop (decodeL l).2)).map (· + 1)
def yT(l:List UInt8):Option Nat:=cntG l.length l
theorem cntG_fuel:∀(n m:Nat) (l:List UInt8),l.length≤n→l.length≤m→cntG n l=cntG m l
 | 0,m,l,h,h'=>by
  have:l=[]:=eM (by omega)
  subst this;cases m<;>rfl
 | n+1,0,l,h,h'=>by
  have:l=[]:=eM (by omega)
  subst this;rfl
 | n+1,m+1,l,h,h'=>by
  unfold cntG;by_cases hl:l=[]
  ·grind
  ·rw[aG hl,aG hl];have hw:=Go.Lib.decodeL_width l;have:=List.length_pos_iff.2 hl;rw[cntG_fuel n m (l.drop (decodeL l).2) (by grind) (by grind)]
theorem cntL_nil:yT []=some 0:=rfl
theorem cntL_step{l:List UInt8}(hl:l≠[]):yT l=if decodeL l=(65533,1) then none else(yT (l.drop (decodeL l).2)).map (· + 1):=by
 have hw:=Go.Lib.decodeL_width l;have:=List.length_pos_iff.2 hl;obtain⟨k,hk⟩:∃k,l.length=k+1:=⟨l.length-1,by omega⟩
 grind [yT,cntG,cntG_fuel,decodeL,gP]
theorem validG_cnt:∀(n:Nat) (l:List UInt8),Go.Lib.validGoD n l=(cntG n l).isSome
 | 0,l=>rfl
 | n+1,l=>by
  unfold Go.Lib.validGoD cntG;by_cases hl:l=[]
  ·grind
  ·rw[aG hl,aG hl];by_cases hd:decodeL l=(65533,1)
   ·grind
   ·rw[aG hd,aG fun h=>hd (Prod.ext h.1 h.2),validG_cnt n]
    cases cntG n (l.drop (decodeL l).2)<;>rfl
theorem valid_cnt(l:List UInt8):Go.Lib.validD l=(yT l).isSome:=validG_cnt _ l
def sG(l:List UInt8):Int:=match yT l with|some k=>k|none=>-1
theorem frz_bytes(s:List UInt8):(mW s).length=s.length:=by rw[mW,dB]
theorem bytes_cells(s:List UInt8):mW s=cV u8C (byN s):=by
 unfold mW cV byN
 induction s with
 | nil=>rfl
 | cons a s ih=>grind [dO,u8C]
theorem bytes_sl(ex:Bool)(s:List UInt8):Sl 1 u8C (byN s) (.sl ex s.length (mW s)):=
 ⟨fun r hr=>by obtain⟨b,_,rfl⟩:=cY.1 hr;rfl,.inr ⟨ex,by rw[bytes_cells,dB,byN,dB];rfl⟩⟩
theorem byN_drop(s:List UInt8)(k:Nat):(byN s).drop k=byN (s.drop k):=by rw[byN,byN,List.map_drop]
theorem c146(n:Nat)(s:List UInt8)(hs:s.length<4294967296):cl (n+5) 146 [.str s]=some (.int .i64 (sG s),true):=by
 rw[iP 146 A146 B146,B146];simp only[z2,seval];generalize hz:zloop KK _ _=rl;refine zwhile rl hz s.length (dY (by omega)) (fun i z=>∃t st c at',z=⟨t,st,c,[],none⟩∧at'≤s.length∧i≤at'∧tget t 0 = .str s∧tget t 3 = .int .i64 (i:Nat)∧tget t 4 = .int .i64 ((at':Nat):Int)∧yT s=(yT (s.drop at')).map (· + i))
  ⟨_,_,_,0,rfl,by omega,by omega,by simp[aA],by simp[aA],by simp[aA],by simp_all⟩ ?_
 rintro i z hi ⟨t,st,c,at',rfl,Ku,Fa,q0,q3,q4,hc⟩;by_cases zQ:at'<s.length
 ·have zU:(byN s).length=s.length:=by rw[byN,dB]
  have Km:=bytes_sl false s;have Pd:s.drop at'≠[]:=fun h=>by grind [List.length,gP,aX]
  have Bi:∀st c,frz false 20 (sadd st c (.grow 0 (mW s))) (.gs c 0 1 s.length)=some (.sl false s.length (mW s)):=fun st c=>by
   rw[lP,aZ,aS rfl];simp only[bM,dS,gQ,frz_bytes];rw[bO (aK _),bG,←frz_bytes s,List.take_length,bytes_cells,enc_u8.cells_frz];rfl
  rcases c176 n Km (byN_8 s) (at':=at') (by omega) (by omega) with⟨k,r,h1,h4,hk,zZ,h176⟩|⟨Dl,e,he,h176⟩
  ·rw[byN_drop]at zZ;have Rq:=(stand_iff h1 h4 (by grind)).1 zZ
   have Kv:bX .i64 (((at':Nat):Int)+(k:Nat))=((at'+k:Nat):Int):=by rw[cL (by omega) (by omega)];omega
   have Gq:bX .i64 (((i:Nat):Int)+1)=((i+1:Nat):Int):=gW (by omega)
   simp only[z2,seval,q0,q3,q4,show decide (((at':Nat):Int)<(s.length:Int))=true from aH (by omega),aF 176,aJ,Bi,h176,dJ,aM,aP,Kv,Gq]
   refine⟨by omega,_,_,_,at'+k,rfl,by omega,by omega,by simp[aA,q0],by simp[aA],by simp[aA],?_⟩
   rw[hc,cntL_step Pd,aG Rq.1,Rq.2,List.drop_drop,Option.map_map]
   congr 1
   grind
  ·simp only[z2,seval,q0,q3,q4,show decide (((at':Nat):Int)<(s.length:Int))=true from aH (by omega),aF 176,aJ,Bi,h176,aL he,dJ,aN,aQ,A146]
   have Bl:decodeL (s.drop at')=(65533,1):=by
    refine Classical.byContradiction fun An=>?_
    have hw:=Go.Lib.decodeL_width (s.drop at');have Ac:=Go.Lib.decodeL_le (s.drop at') Pd;have h4:(decodeL (s.drop at')).2≤4:=by rw[Go.Lib.decodeL_N];exact width4.2
    have Dm:=Ac;rw[gP]at Dm;have:=Dl _ hw h4 (by omega)
    rw[byN_drop,(stand_iff hw h4 Ac).2 ⟨An,rfl⟩]at this;cases this
   have:sG s = -1:=by rw[sG,hc,cntL_step Pd,aS Bl];rfl
   rw[this];rfl
 ·simp only[z2,seval,q0,q3,q4,show decide (((at':Nat):Int)<(s.length:Int))=false from aE (by omega),A146]
  have:sG s=(i:Nat):=by rw[sG,hc,List.drop_eq_nil_of_le (by omega),cntL_nil];simp
  rw[this];rfl
theorem c273(n:Nat)(b:UInt8):cl n 273 [.int .u8 b.toNat]=some (.bool (kF b),true):=by
 rw[iP 273 A273 B273,lowerB_eq,B273];cases h3:decide ((97:Int)≤(b.toNat:Int))
 ·simp only[z0,seval,h3,A273];rfl
 ·simp only[z0,seval,h3,A273];rfl
theorem c274(n:Nat)(b:UInt8):cl n 274 [.int .u8 b.toNat]=some (.bool (qD b),true):=by
 rw[iP 274 A274 B274,digitB_eq,B274];cases h3:decide ((48:Int)≤(b.toNat:Int))
 ·simp only[z0,seval,h3,A274];rfl
 ·simp only[z0,seval,h3,A274];rfl
def alnum(b:UInt8):Bool:=kF b||qD b
def xD(s:List UInt8):Bool:=match s with|[]=>false|b::r=>kF b&&(b::r).all alnum
theorem c211(n:Nat)(s:List UInt8)(hs:s.length<9223372036854775807):cl (n+1) 211 [.str s]=some (.bool (xD s),true):=by
 rw[iP 211 A211 B211,B211];cases s with
 | nil=>simp only[z0,seval,A211];rfl
 | cons b r=>
  have Da:iF (b::r).length (.int .i64 0)=some 0:=idxD_0 (by simp)
  have hn:xD (b::r)=(kF b&&(b::r).all alnum):=rfl;cases hb:kF b
  ·simp only[z0,seval,aP,List.cons_ne_nil,Da,aV,aF 273,aJ,c273,hb,A211];rw[hn,hb,Bool.false_and];rfl
  ·simp only[z0,seval,aP,List.cons_ne_nil,Da,aV,aF 273,aJ,c273,hb];generalize hz:zloop KK _ _=rl;refine zfor rl hz (b::r).length (dY hs) hs (fun i t s c=>tget t 0 = .str (b::r)∧∀j (h:j<(b::r).length),j<i→alnum (b::r)[j]=true) (by simp[aA]) (by simp[aA]) ?_
   rintro i t s c hi ⟨h0,Aa⟩ h3;have Em:∀(h:i<(b::r).length),alnum (b::r)[i]=true→∀j (h:j<(b::r).length),j<i+1→alnum (b::r)[j]=true:=fun h hc j hj Qo=>by
    grind
   by_cases zQ:i<(b::r).length
   ·have hd:decide ((i:Int)<((b::r).length:Int))=true:=dT (by omega)
    have hg:(b::r)[i]?=some (b::r)[i]:=aI zQ;have Bl:alnum (b::r)[i]=false→xD (b::r)=false:=fun h=>by
     grind
    generalize Iq:(b::r)[i]=ch at hg Bl Em;cases h1:kF ch
    ·cases h2:qD ch
     ·have hc:alnum ch=false:=by rw[alnum,h1,h2];rfl
      simp only[z0,seval,hd,h0,h3,fB zQ,hg,aF 273,aF 274,aJ,c273,c274,h1,h2,A211];rw[Bl hc];rfl
     ·have hc:alnum ch=true:=by rw[alnum,h1,h2];rfl
      simp only[z0,seval,hd,h0,h3,fB zQ,hg,aF 273,aF 274,aJ,c273,c274,h1,h2]
      grind
    ·have hc:alnum ch=true:=by rw[alnum,h1];rfl
     simp only[z0,seval,hd,h0,h3,fB zQ,hg,aF 273,aF 274,aJ,c273,c274,h1]
     grind
   ·have hd:decide ((i:Int)<((b::r).length:Int))=false:=dF (by omega)
    have Av:xD (b::r)=true:=by
     rw[hn,hb,cF.2];· rfl
     intro x hx;obtain⟨j,hj,rfl⟩:=List.mem_iff_getElem.1 hx;exact Aa j hj (by omega)
    simp only[z0,seval,hd,h0,h3,A211];rw[Av];rfl
/-! Names of primitives. -/
def strOf(d:D):List UInt8:=match d with | .str s=>s|_=>[]
def PN1:List (List UInt8):=match cl 1 210 [] with|some (.sl _ _ l,_)=>[]::l.map strOf|_=>[]
def PN:List (List UInt8):=PN1.tail
theorem c210(n:Nat):cl (n+1) 210 []=some (.sl true 40 (PN.map D.str),true):=by kernel_rfl
theorem PN_len:PN.length=40:=by kernel_rfl
def fP(s:List UInt8)(i:Nat):Option D:=if 0<i∧PN1.getD i []=s then some (e2 i 0) else none
def vS(s:List UInt8):D:=scan (fP s) (e2 0 4) 41 0
theorem PN1_cons:PN1=[]::PN:=by kernel_rfl
theorem PN_sl:Sl 1 fM PN (.sl true 40 (PN.map D.str)):=by
 refine⟨fun r hr=>by simp only[cY]at hr;obtain⟨s,_,rfl⟩:=hr;rfl,.inr ⟨true,?_⟩⟩
 rw[dB,PN_len];have h:∀l:List (List UInt8),l.map D.str=(l.map fM).flatten:=fun l=>by
  induction l with
  | nil=>rfl
  | cons a l ih=>grind [dO,fM]
 rw[h]
theorem c159(n:Nat)(s:List UInt8):cl (n+2) 159 [.str s]=some (vS s,true):=by
 rw[iP 159 A159 B159,B159];have hd:=PN_sl;simp only[z0,↓reduceIte,Nat.reduceEqDiff,Nat.reduceAdd,Nat.reduceLeDiff,reduceCtorEq,aF 210,aJ,c210,hd.nag];generalize hz:zloop KK _ _=rl;refine zfor rl hz 40 (dY (by decide)) (by decide) (fun i t s' c=>tget t 0 = .str s∧tget t 4 = .sl true 40 (PN.map D.str)∧∀j,j<i+1→fP s j=none) (by simp[aA]) (by simp[aA,fP]) ?_
 rintro i t s' c hi ⟨q0,q4,hn⟩ q5;by_cases zQ:i<40
 ·have hl:i<PN.length:=by rw[PN_len];exact zQ
  have Ac:decide ((i:Int)<((40:Nat):Int))=true:=dT (by omega)
  have hg:PN1.getD (i+1) []=PN[i]:=by rw[PN1_cons,List.getD_cons_succ,jK hl]
  by_cases he:PN[i]=s
  ·have hp:fP s (i+1)=some (e2 ((i:Int)+1) 0):=by unfold fP;rw[hg,aS ⟨by omega,he⟩];simp
   simp only[z0,↓reduceIte,Nat.reduceEqDiff,Nat.reduceAdd,Nat.reduceLeDiff,reduceCtorEq,q0,q4,q5,hd.len,PN_len,Ac,hd.ia1 hl,hd.at1 hl,fM,aV,aH he,A159];unfold vS;rw[eL (m:=i+1) (by omega) hp hn,show bX .i64 ((i:Int)+1)=((i+1:Nat):Int) from gW (by omega)]
   rfl
  ·have hp:fP s (i+1)=none:=by unfold fP;rw[hg,aG fun h=>he h.2]
   simp only[z0,↓reduceIte,Nat.reduceEqDiff,Nat.reduceAdd,Nat.reduceLeDiff,reduceCtorEq,q0,q4,q5,hd.len,PN_len,Ac,hd.ia1 hl,hd.at1 hl,fM,aV,aE he]
   grind
 ·have Ac:decide ((i:Int)<((40:Nat):Int))=false:=dF (by omega)
  simp only[z0,↓reduceIte,Nat.reduceEqDiff,Nat.reduceAdd,Nat.reduceLeDiff,reduceCtorEq,q0,q4,q5,hd.len,PN_len,Ac,A159];unfold vS;rw[fL fun j hj=>hn j (by omega)];rfl
/-! The table. -/
def tabC:List D:=match cl 1 155 [] with|some (.sl _ _ l,_)=>l|_=>[]
theorem c155(n:Nat):cl (n+1) 155 []=some (.sl true 41 tabC,false):=by kernel_rfl
def tabE(r:List UInt8×D×D×D×D):List D:=[.str r.1,r.2.1,r.2.2.1,r.2.2.2.1,r.2.2.2.2]
def un5:Nat→List D→List (List UInt8×D×D×D×D)
 | k+1,.str a::b::c::d::e::r=>(a,b,c,d,e)::un5 k r
 | _,_=>[]
def tabL:List (List UInt8×D×D×D×D):=un5 41 tabC
theorem tab_eq:tabC=(tabL.map tabE).flatten:=by kernel_rfl
theorem tab_len:tabL.length=41:=by kernel_rfl
theorem tab_names:tabL.map (fun r=>r.1)=PN1:=by kernel_rfl
theorem tab_sl:Sl 5 tabE tabL (.sl true 41 tabC):=
 ⟨fun r hr=>by simp only[cY]at hr;obtain⟨p,_,rfl⟩:=hr;rfl,.inr ⟨true,by rw[dB,tab_len,tab_eq]⟩⟩
def RW:List (List UInt8):=[[118,97,114],[100,101,102],[111,117,116],[105,102],[101,108,115,101],[119,104,105,108,101],[101,110,100],[114,101,108,101,97,115,101],[105,110,116],[99,104,97,114]]
def resB(s:List UInt8):Bool:=RW.contains s
theorem c161(n:Nat)(s:List UInt8):cl n 161 [.str s]=some (.bool (resB s),true):=by
 rw[iP 161 A161 B161,B161];simp only[z1,↓reduceIte,Nat.reduceEqDiff,Nat.reduceAdd,Nat.reduceLeDiff,reduceCtorEq];generalize hz:zloop KK _ _=rl;refine zfor rl hz 10 (dY (by decide)) (by decide) (fun i t s' c=>tget t 0 = .str s∧tget t 3 = .ms 0 0 1 10 10∧sget s' 0=some (.fix 0 (RW.map D.str))∧∀j (h:j<RW.length),j<i→RW[j]≠s) (by simp[aA]) (by simp[aA,RW]) ?_
 rintro i t s' c hi ⟨q0,q3,s0,hn⟩ q4;have zU:lenD false (.ms 0 0 1 10 10)=some 10:=rfl;by_cases zQ:i<10
 ·have hl:i<RW.length:=zQ;have Ac:decide ((i:Int)<((10:Nat):Int))=true:=dT (by omega)
  have hg:(RW.map D.str)[i]?=some (.str RW[i]):=by rw[List.getElem?_map,aI hl];rfl
  have Fa:iJ 1 (.ms 0 0 1 10 10) (.int .i64 (i:Nat))=some (.ptr 0 i):=by simp[iJ,fB zQ]
  by_cases he:RW[i]=s
  ·have hr:resB s=true:=by rw[resB,List.contains_iff_mem];exact he▸bQ hl
   simp only[z1,↓reduceIte,Nat.reduceEqDiff,Nat.reduceAdd,Nat.reduceLeDiff,reduceCtorEq,q0,q3,q4,s0,Ac,zU,Fa,hg,dS,aH he,hr,A161];rfl
  ·simp only[z1,↓reduceIte,Nat.reduceEqDiff,Nat.reduceAdd,Nat.reduceLeDiff,reduceCtorEq,q0,q3,q4,s0,Ac,zU,Fa,hg,dS,aE he];refine⟨zQ,trivial,trivial,trivial,trivial,trivial,trivial,fun j hj Qo=>?_⟩
   rcases iI.1 Qo with h'|rfl
   ·exact hn j hj h'
   ·exact he
 ·have Ac:decide ((i:Int)<((10:Nat):Int))=false:=dF (by omega)
  have hr:resB s=false:=by
   rw[←gI,resB,List.contains_iff_mem];intro h;obtain⟨j,hj,e⟩:=List.mem_iff_getElem.1 h;exact hn j hj (by have:RW.length=10:=rfl;omega) e
  simp only[z1,↓reduceIte,Nat.reduceEqDiff,Nat.reduceAdd,Nat.reduceLeDiff,reduceCtorEq,q0,q3,q4,s0,Ac,zU,hr,A161];rfl
def rW(s:List UInt8):Int:=bif xD s then bif decide (16<s.length) then 3 else 0 else 6
theorem c160(n:Nat)(s:List UInt8)(hs:s.length<9223372036854775807):cl (n+2) 160 [.agg [.int .i64 1,.int .i64 0,.int .i64 0,.int .i64 0,.str s]]=some (.int .i64 (rW s),true):=by
 rw[iP 160 A160 B160,B160];have De:decide ((16:Int)<(s.length:Int))=decide (16<s.length):=by rw[fF,bZ,bZ];omega
 cases hw:xD s
 ·simp only[z1,seval,aF 211,aJ,c211 n s hs,hw,dJ,aM,aN,aQ,aP,A160];rw[rW,hw];rfl
 ·cases hl:decide (16<s.length)
  ·simp only[z1,seval,aF 211,aJ,c211 n s hs,hw,De,hl,dJ,aM,aN,aQ,aP,A160];rw[rW,hw,hl];rfl
  ·simp only[z1,seval,aF 211,aJ,c211 n s hs,hw,De,hl,dJ,aM,aN,aQ,aP,A160];rw[rW,hw,hl];rfl
theorem wG(s:List UInt8):(∃p:Nat,vS s=e2 p 0)∨vS s=e2 0 4:=by
 unfold vS;rcases eX (fP s) (e2 0 4) 41 0 with⟨_,h⟩|⟨m,r,_,_,h3,_,h5⟩
 ·exact .inr h
 ·rw[h5];unfold fP at h3;split at h3
  ·cases h3;exact .inl ⟨_,rfl⟩
  ·cases h3
def rO(s:List UInt8):Bool:=match vS s with | .tup [_,.int _ e]=>decide (e=0)|_=>false
def gF(s:List UInt8):Bool:=decide (rW s=0)&&(!rO s && !resB s)
theorem c112(n:Nat)(s:List UInt8)(hs:s.length<9223372036854775807):cl (n+3) 112 [.str s]=some (.bool (gF s),true):=by
 rw[iP 112 A112 B112,B112];cases hw:decide (rW s=0)
 ·have hi:gF s=false:=by rw[gF,hw];rfl
  rcases wG s with⟨p,hf⟩|hf
  ·simp only[z1,seval,aF 159,aF 160,aJ,c159 n s,c160 n s hs,hf,dV,hw,hi,dJ,aM,aN,aQ,aP,A112];rfl
  ·simp only[z1,seval,aF 159,aF 160,aJ,c159 n s,c160 n s hs,hf,dV,hw,hi,dJ,aM,aN,aQ,aP,A112];rfl
 ·rcases wG s with⟨p,hf⟩|hf
  ·have Mo:rO s=true:=by rw[rO,hf];rfl
   have hi:gF s=false:=by rw[gF,hw,Mo];rfl
   simp only[z1,seval,aF 159,aF 160,aJ,c159 n s,c160 n s hs,hf,dV,hw,hi,dJ,aM,aN,aQ,aP,A112];rfl
  ·have Mo:rO s=false:=by rw[rO,hf];rfl
   have hi:gF s = !resB s:=by rw[gF,hw,Mo];rfl
   simp only[z1,seval,aF 159,aF 160,aF 161,aJ,c159 n s,c160 n s hs,c161 (n+2) s,hf,dV,hw,hi,dJ,aM,aN,aQ,aP,A112];rfl
def vU(i:Nat)(x:Option (D×Bool)):Bool:=match x with
 | some (.tup [.int .i64 a,.int .i64 _],true)=>(decide (a=8)==(Nat.ble 97 i&&Nat.ble i 122))&&(decide (a=6)==(Nat.ble 48 i&&Nat.ble i 57))
 | _=>false
theorem cls0(n:Nat):((List.range 32).all fun(i:Nat)=>vU (0+i) (cl (n+6) 208 [.int .i64 ((0+i:Nat):Int)]))=true:=by kernel_rfl
theorem cls1(n:Nat):((List.range 32).all fun(i:Nat)=>vU (32+i) (cl (n+6) 208 [.int .i64 ((32+i:Nat):Int)]))=true:=by kernel_rfl
theorem cls2(n:Nat):((List.range 32).all fun(i:Nat)=>vU (64+i) (cl (n+6) 208 [.int .i64 ((64+i:Nat):Int)]))=true:=by kernel_rfl
theorem cls3(n:Nat):((List.range 32).all fun(i:Nat)=>vU (96+i) (cl (n+6) 208 [.int .i64 ((96+i:Nat):Int)]))=true:=by kernel_rfl
theorem cls4(n:Nat):((List.range 32).all fun(i:Nat)=>vU (128+i) (cl (n+6) 208 [.int .i64 ((128+i:Nat):Int)]))=true:=by kernel_rfl
theorem cls5(n:Nat):((List.range 32).all fun(i:Nat)=>vU (160+i) (cl (n+6) 208 [.int .i64 ((160+i:Nat):Int)]))=true:=by kernel_rfl
theorem cls6(n:Nat):((List.range 32).all fun(i:Nat)=>vU (192+i) (cl (n+6) 208 [.int .i64 ((192+i:Nat):Int)]))=true:=by kernel_rfl
theorem cls7(n:Nat):((List.range 32).all fun(i:Nat)=>vU (224+i) (cl (n+6) 208 [.int .i64 ((224+i:Nat):Int)]))=true:=by kernel_rfl
theorem cls(n:Nat)(b:UInt8):∃a e:Int,cl (n+6) 208 [.int .i64 (b.toNat:Int)]=some (.tup [.int .i64 a,.int .i64 e],true)∧decide (a=8)=kF b∧decide (a=6)=qD b:=by
 have h:vU b.toNat (cl (n+6) 208 [.int .i64 (b.toNat:Int)])=true:=by
  have hb:=b.toNat_lt;obtain⟨k,i,hk,hi,he⟩:∃k i,k<8∧i<32∧b.toNat=k*32+i:=⟨b.toNat / 32,b.toNat % 32,by omega,by omega,by omega⟩
  rw[he];have Bs:i∈List.range 32:=List.mem_range.2 hi
  match k,hk with
  | 0,_=>exact cF.1 (cls0 n) i Bs
  | 1,_=>exact cF.1 (cls1 n) i Bs
  | 2,_=>exact cF.1 (cls2 n) i Bs
  | 3,_=>exact cF.1 (cls3 n) i Bs
  | 4,_=>exact cF.1 (cls4 n) i Bs
  | 5,_=>exact cF.1 (cls5 n) i Bs
  | 6,_=>exact cF.1 (cls6 n) i Bs
  | 7,_=>exact cF.1 (cls7 n) i Bs
 unfold vU at h;split at h
 ·rename_i a e hx;simp only[bW,beq_iff_eq]at h;exact⟨a,e,hx,h.1,h.2⟩
 ·cases h
def clsIs(s:List UInt8)(i:Nat)(v:Int):Prop:=decide (v=8)=(match s[i]? with|some b=>kF b|none=>false)∧decide (v=6)=(match s[i]? with|some b=>qD b|none=>false)
theorem f156(n j:Nat){T:Nat}{k:D}{i:Nat}(hm:sget st m=some (.fix T [.str s,k]))(hi:i≤s.length):
  ∃v:Int,fn (n+7) (j+2) (.fn 156) [.ptr m 0,.int .i64 (i:Nat)] st c = .ok (.ret (.int .i64 v)) st c∧clsIs s i v:=by
 rw[iG (f:=156) (A:=A156) rfl rfl rfl rfl (n+7) (j+1) _ _ _ rfl,show A156.body=B156.b from rfl]
 simp only[B156,cI];by_cases zQ:i<s.length
 ·have hge:decide (((s.length:Nat):Int)≤(i:Nat))=false:=dF (by omega)
  have hg:s[i]?=some s[i]:=aI zQ;obtain⟨a,e,h1,h2,h3⟩:=cls n s[i];have hb:=s[i].toNat_lt;have hw:bX .i64 (s[i].toNat:Int)=(s[i].toNat:Int):=cL (by omega) (by omega)
  simp only[z2,seval,hm,hge,fB zQ,hg,hw,aF 208,aJ,h1,A156];refine⟨a,?_,by grind,by grind⟩
  rfl
 ·have hge:decide (((s.length:Nat):Int)≤(i:Nat))=true:=dT (by omega)
  have hg:s[i]?=none:=kH (by omega)
  simp only[z2,seval,hm,hge,A156];refine⟨10,?_,by rw[hg];rfl,by rw[hg];rfl⟩
  rfl
theorem clsIs.alnum{i:Nat}{v:Int}(h:clsIs s i v):(decide (v=8)||decide (v=6))=(match s[i]? with|some b=>alnum b|none=>false):=by
 rw[h.1,h.2];cases s[i]?<;>rfl
theorem f157(n j:Nat){T:Nat}(hm:sget st m=some (.fix T [.str s,.int .i64 0]))(hs:s.length<9223372036854775807):
  ∃(k:Nat) (Hg:St) (c':Nat),k≤s.length∧(k=s.length↔s.all alnum=true)∧fn (n+7) (j+3) (.fn 157) [.ptr m 0,.int .i64 8,.int .i64 6] st c = .ok (.ret (.str (s.take k))) Hg c'∧c≤c'∧∀x,x≠m→sget Hg x=sget st x:=by
 rw[iG (f:=157) (A:=A157) rfl rfl rfl rfl (n+7) (j+2) _ _ _ rfl,show A157.body=B157.b from rfl]
 simp only[B157,cI];obtain⟨v0,h0,Qe⟩:=f156 n j (c:=c) (i:=0) hm (dM _);have h0':fn (n+7) (j+2) (.fn 156) [.ptr m 0,.int .i64 0] st c = .ok (.ret (.int .i64 v0)) st c:=h0;simp only[z2,seval,hm,h0'];generalize hz:zloop KK _ _=rl
 refine zwhile rl hz s.length (dY hs) (fun i z=>∃t v Hg,z=⟨t,Hg,c,[],none⟩∧sget Hg m=some (.fix T [.str s,.int .i64 (i:Nat)])∧(∀x,x≠m→sget Hg x=sget st x)∧tget t 0 = .ptr m 0∧tget t 1 = .int .i64 8∧tget t 2 = .int .i64 6∧tget t 7 = .int .i64 0∧tget t 8 = .int .i64 v∧clsIs s i v∧∀q (h:q<s.length),q<i→alnum s[q]=true)
  ⟨_,v0,_,rfl,hm,fun _ _=>rfl,by simp[aA],by simp[aA],by simp[aA],by simp[aA],by simp[aA],Qe,nofun⟩ ?_
 rintro i z hi ⟨t,v,Hg,rfl,Ei,zX,q0,q1,q2,q7,q8,hv,Aa⟩;have Ki:=hv.alnum;have Bm:(decide (v=8)||decide (v=6))=false→(i=s.length↔s.all alnum=true):=fun hc=>by
  grind [cF,List.mem_iff_getElem,bQ,aI,absurd]
 have step:(decide (v=8)||decide (v=6))=true→∃h:i<s.length,alnum s[i]=true:=fun hc=>by
  grind
 have next:∀h:i<s.length,∃v1:Int,fn (n+7) (j+2) (.fn 156) [.ptr m 0,.int .i64 ((i+1:Nat):Int)] (sset Hg m (.fix T [.str s,.int .i64 ((i+1:Nat):Int)])) c = .ok (.ret (.int .i64 v1)) (sset Hg m (.fix T [.str s,.int .i64 ((i+1:Nat):Int)])) c∧clsIs s (i+1) v1:=fun h=>
  f156 n j (by rw[aU,aS rfl]) (by omega)
 have zG:∀h:i<s.length,alnum s[i]=true→∀q (h:q<s.length),q<i+1→alnum s[q]=true:=fun h ha q hq Qi=>by
  grind
 have Cy:i<s.length→bX .i64 ((i:Int)+1)=((i+1:Nat):Int):=fun h=>gW (by omega)
 cases h8:decide (v=8)
 ·cases h6:decide (v=6)
  ·have hf:=Bm (by grind)
   have b1:gH s.length s.length (some (.int .i64 (i:Nat)))=some i:=by show vH s.length (.int .i64 ((i:Nat):Int))=some i;exact lF hi
   have b2:gH i 0 (some (.int .i64 0))=some 0:=by show vH i (.int .i64 ((0:Nat):Int))=some 0;exact lF (dM _)
   simp only[z2,seval,b1,b2,bE,gQ,Ei,q0,q1,q2,q7,q8,h8,h6,dR,cN,fX,iY,AOp.kd,eE,fQ,fG,eJ,dW,lH,dP,step_slS,cC,dD,A157]
   grind
  ·obtain⟨zQ,ha⟩:=step (by grind)
   obtain⟨v1,Mp,Ds⟩:=next zQ;simp only[z2,seval,Ei,q0,q1,q2,q7,q8,h8,h6,Cy zQ,Mp];refine⟨zQ,_,v1,_,rfl,by grind [aU],fun x hx=>by grind [aU],by simp[aA,q0],by simp[aA,q1],by simp[aA,q2],by simp[aA,q7],by simp[aA],Ds,zG zQ ha⟩
 ·obtain⟨zQ,ha⟩:=step (by rw[h8];rfl)
  obtain⟨v1,Mp,Ds⟩:=next zQ;simp only[z2,seval,Ei,q0,q1,q2,q7,q8,h8,Cy zQ,Mp];refine⟨zQ,_,v1,_,rfl,by grind [aU],fun x hx=>by grind [aU],by simp[aA,q0],by simp[aA,q1],by simp[aA,q2],by simp[aA,q7],by simp[aA],Ds,zG zQ ha⟩
theorem c111(n:Nat)(s:List UInt8)(hs:s.length<9223372036854775807):cl (n+7) 111 [.agg [.int .i64 1,.int .i64 0,.int .i64 0,.int .i64 0,.str s]]=some (.int .i64 (rW s),true):=by
 rw[iP 111 A111 B111,B111];have De:decide ((16:Int)<(s.length:Int))=decide (16<s.length):=by rw[fF,bZ,bZ];omega
 have zY:cX [.int .i64 1,.int .i64 0,.int .i64 0,.int .i64 0,.str s] 0 (some 5)=some (.agg [.int .i64 1,.int .i64 0,.int .i64 0,.int .i64 0,.str s]):=rfl
 have hcmp:oW (.ty (.parts [(0,none,.int),(1,none,.int),(2,none,.int),(3,none,.int),(4,none,.str)])) (.agg [.int .i64 1,.int .i64 0,.int .i64 0,.int .i64 0,.str s]) (.agg [.int .i64 1,.int .i64 0,.int .i64 0,.int .i64 0,.str s])=some true:=by
  simp[oW,eqT,uC,cX]
 simp only[z2,seval,dJ,aM,aN,aQ,aP,zY,hcmp,bR,dR,cN,fX,iY,AOp.kd,eE,fQ,fG,eJ,dW,lH,cC,dD];generalize hS:sadd _ 2 _=S;have hm:sget S 2=some (.fix 222 [.str s,.int .i64 0]):=by rw[←hS];simp[aA]
 have s0:sget S 0=some (.fix 174 [.int .i64 1,.int .i64 0,.int .i64 0,.int .i64 0,.str s]):=by rw[←hS];simp[aA]
 clear hS;obtain⟨v,Ds,hv2⟩:=f156 n 4094 (c:=3+10) hm (dM _);have Oi:fn (n+7) 4096 (.fn 156) [.ptr 2 0,.int .i64 0] S (3+10) = .ok (.ret (.int .i64 v)) S (3+10):=Ds;have hw0:xD s=(decide (v=8)&&s.all alnum):=by
  rw[hv2.1];cases s with
  | nil=>rfl
  | cons b r=>rfl
 cases h8:decide (v=8)
 ·have hw:xD s=false:=by rw[hw0,h8];rfl
  simp only[z2,seval,aO,aX,Oi,dJ,bN,h8,dR,cN,fX,iY,AOp.kd,eE,fQ,fG,eJ,dW,lH,cC,dD,A111];rw[rW,hw];rfl
 ·obtain⟨k,S',c',hk,hka,h157,Bw,zX⟩:=f157 n 4093 (c:=3+10) hm hs;have Nb:fn (n+7) 4096 (.fn 157) [.ptr 2 0,.int .i64 8,.int .i64 6] S (3+10) = .ok (.ret (.str (s.take k))) S' c':=h157;have Px:sget S' 0=some (.fix 174 [.int .i64 1,.int .i64 0,.int .i64 0,.int .i64 0,.str s]):=by rw[zX 0 (by omega)];exact s0
  have hw:xD s=s.all alnum:=by grind
  cases ha:s.all alnum
  ·have An:(s.take k=s)=False:=aL fun h=>by
    grind
   simp only[z2,seval,aO,aX,Oi,Nb,s0,Px,An,dJ,bN,h8,dR,cN,fX,iY,AOp.kd,eE,fQ,fG,eJ,dW,lH,cC,List.take_succ_cons,dD,List.all_cons,bP,dL,A111];rw[rW,hw,ha];rfl
  ·have Yi:s.take k=s:=by rw[hka.2 ha,List.take_length]
   cases hl:decide (16<s.length)
   ·simp only[z2,seval,aO,aX,Oi,Nb,s0,Px,Yi,dJ,bN,h8,dR,cN,fX,iY,AOp.kd,eE,fQ,fG,eJ,dW,lH,cC,List.take_succ_cons,dD,List.all_cons,bP,dL,De,hl,A111];rw[rW,hw,ha,hl];rfl
   ·simp only[z2,seval,aO,aX,Oi,Nb,s0,Px,Yi,dJ,bN,h8,dR,cN,fX,iY,AOp.kd,eE,fQ,fG,eJ,dW,lH,cC,List.take_succ_cons,dD,List.all_cons,bP,dL,De,hl,A111];rw[rW,hw,ha,hl];rfl
theorem tab_ag:(tabL.all fun r=>(!eG r.2.1&&(!eG r.2.2.1&&(!eG r.2.2.2.1 && !eG r.2.2.2.2))))=true:=by kernel_rfl
theorem c110(n:Nat)(s:List UInt8):cl (n+2) 110 [.str s]=some (vS s,true):=by
 rw[iP 110 A110 B110,B110];have hd:=tab_sl;have zU:lenD false (.sl true 41 tabC)=some 41:=rfl;simp only[z2,↓reduceIte,Nat.reduceEqDiff,Nat.reduceAdd,Nat.reduceLeDiff,reduceCtorEq,aF 155,aJ,c155,D.pures,Bool.or_true,zU];generalize hz:zloop KK _ _=rl
 refine zrange rl hz 41 (dY (by decide)) (by decide) (fun i t s' c=>tget t 0 = .str s∧tget t 6 = .sl true 41 tabC∧∀j,j<i→fP s j=none) (by decide) (by simp[aA]) (by simp[aA]) (by simp[aA]) ?_ ?_
 ·rintro i t s' c hi ⟨q0,q6,hn⟩ Ag Ah;have hl:i<tabL.length:=by rw[tab_len];exact hi
  have zW:=hd.row hl;have Lf:=cF.1 tab_ag _ (bQ hl);simp only[bW,Bool.not_eq_true']at Lf;obtain⟨g1,g2,g3,g4⟩:=Lf;have Mf:PN1.getD i []=tabL[i].1:=by rw[←tab_names,mJ,List.getElem?_map,aI hl];rfl
  by_cases h0:i=0
  ·subst h0;have hp:fP s 0=none:=by unfold fP;rw[aG fun h=>absurd h.1 (by omega)]
   simp only[z2,↓reduceIte,Nat.reduceEqDiff,Nat.reduceAdd,Nat.reduceLeDiff,reduceCtorEq,q0,q6,Ag,Ah,hd.ia hl,zW,tabE,g1,g2,g3,g4,Bool.or_self,show decide ((0:Int)<((0:Nat):Int))=false from rfl]
   grind
  ·have Jm:decide ((0:Int)<(i:Nat))=true:=dT (by omega)
   by_cases he:tabL[i].1=s
   ·have hp:fP s i=some (e2 i 0):=by unfold fP;rw[Mf,aS ⟨by omega,he⟩]
    simp only[z2,↓reduceIte,Nat.reduceEqDiff,Nat.reduceAdd,Nat.reduceLeDiff,reduceCtorEq,q0,q6,Ag,Ah,hd.ia hl,zW,tabE,g1,g2,g3,g4,Bool.or_self,Jm,he,A110];unfold vS;rw[eL hi hp hn];rfl
   ·have hp:fP s i=none:=by unfold fP;rw[Mf,aG fun h=>he h.2]
    simp only[z2,↓reduceIte,Nat.reduceEqDiff,Nat.reduceAdd,Nat.reduceLeDiff,reduceCtorEq,q0,q6,Ag,Ah,hd.ia hl,zW,tabE,g1,g2,g3,g4,Bool.or_self,Jm,aL he]
    grind
 ·rintro t s' c ⟨q0,q6,hn⟩ Ag Ah;simp only[z2,↓reduceIte,Nat.reduceEqDiff,Nat.reduceAdd,Nat.reduceLeDiff,reduceCtorEq,q0,q6,Ag,Ah,A110];unfold vS;rw[fL hn];rfl
theorem c61(n:Nat)(s:List UInt8)(hs:s.length<9223372036854775807):cl (n+8) 61 [.str s]=some (.bool (gF s),true):=by
 rw[iP 61 A61 B61,B61];have Ba:∀w∈RW,s=w→gF s=false:=fun w hw e=>by
  grind [resB,List.contains_iff_mem,gF]
 by_cases h0:s=[118,97,114]
 ·have hi:=Ba _ (by simp[RW]) h0
  simp only[z2,seval,eq_true h0,aQ,aP,A61];rw[hi];rfl
 by_cases h1:s=[100,101,102]
 ·have hi:=Ba _ (by simp[RW]) h1
  simp only[z2,seval,aL h0,eq_true h1,aQ,aP,A61];rw[hi];rfl
 by_cases h2:s=[111,117,116]
 ·have hi:=Ba _ (by simp[RW]) h2
  simp only[z2,seval,aL h0,aL h1,eq_true h2,aQ,aP,A61];rw[hi];rfl
 by_cases h3:s=[105,102]
 ·have hi:=Ba _ (by simp[RW]) h3
  simp only[z2,seval,aL h0,aL h1,aL h2,eq_true h3,aQ,aP,A61];rw[hi];rfl
 by_cases h4:s=[101,108,115,101]
 ·have hi:=Ba _ (by simp[RW]) h4
  simp only[z2,seval,aL h0,aL h1,aL h2,aL h3,eq_true h4,aQ,aP,A61];rw[hi];rfl
 by_cases h5:s=[119,104,105,108,101]
 ·have hi:=Ba _ (by simp[RW]) h5
  simp only[z2,seval,aL h0,aL h1,aL h2,aL h3,aL h4,eq_true h5,aQ,aP,A61];rw[hi];rfl
 by_cases h6:s=[101,110,100]
 ·have hi:=Ba _ (by simp[RW]) h6
  simp only[z2,seval,aL h0,aL h1,aL h2,aL h3,aL h4,aL h5,eq_true h6,aQ,aP,A61];rw[hi];rfl
 by_cases h7:s=[114,101,108,101,97,115,101]
 ·have hi:=Ba _ (by simp[RW]) h7
  simp only[z2,seval,aL h0,aL h1,aL h2,aL h3,aL h4,aL h5,aL h6,eq_true h7,aQ,aP,A61];rw[hi];rfl
 by_cases h8:s=[105,110,116]
 ·have hi:=Ba _ (by simp[RW]) h8
  simp only[z2,seval,aL h0,aL h1,aL h2,aL h3,aL h4,aL h5,aL h6,aL h7,eq_true h8,aQ,aP,A61];rw[hi];rfl
 by_cases h9:s=[99,104,97,114]
 ·have hi:=Ba _ (by simp[RW]) h9
  simp only[z2,seval,aL h0,aL h1,aL h2,aL h3,aL h4,aL h5,aL h6,aL h7,aL h8,eq_true h9,aQ,aP,A61];rw[hi];rfl
 have Ba:resB s=false:=by
  rw[←gI,resB,List.contains_iff_mem];simp only[RW,cH,List.not_mem_nil,or_false,not_or];exact⟨h0,h1,h2,h3,h4,h5,h6,h7,h8,h9⟩
 rcases wG s with⟨p,hf⟩|hf
 ·have Mo:rO s=true:=by rw[rO,hf];rfl
  have hi:gF s=false:=by rw[gF,Mo];simp
  simp only[z2,seval,aL h0,aL h1,aL h2,aL h3,aL h4,aL h5,aL h6,aL h7,aL h8,aL h9,aQ,aP,aF 110,aJ,c110,hf,dV,A61];rw[hi];rfl
 ·have Mo:rO s=false:=by rw[rO,hf];rfl
  have hi:gF s=decide (rW s=0):=by rw[gF,Mo,Ba];simp
  simp only[z2,seval,aL h0,aL h1,aL h2,aL h3,aL h4,aL h5,aL h6,aL h7,aL h8,aL h9,aQ,aP,aF 110,aF 111,aJ,c110,c111 n s hs,hf,dV,A61];rw[hi];rfl
open Go.Lib (decodeN decodeL)
theorem decodeD_L(s:List UInt8)(pos:Nat):pO s pos=decodeL (s.drop pos):=(Go.Lib.decodeL_drop ⟨s.toArray⟩ pos).symm
theorem c164(n:Nat)(hm:yT s=some m)(hs:s.length<4294967296):cl n 164 [.str s]=some (.int .i64 (m:Nat),true):=by
 rw[iP 164 A164 B164,B164];simp only[z2,seval];generalize hz:zloop KK _ _=rl;refine zwhile rl hz s.length (dY (by omega)) (fun i z=>∃t st c pos,z=⟨t,st,c,[],none⟩∧pos≤s.length∧i≤pos∧tget t 2 = .int .i64 (i:Nat)∧tget t 4 = .it 0∧sget st 0=some (.iter s pos)∧∃r,yT (s.drop pos)=some r∧r+i=m)
  ⟨_,_,_,0,rfl,by omega,by omega,by simp[aA],by simp[aA],by simp[aA],m,hm,by omega⟩ ?_
 rintro i z hi ⟨t,st,c,pos,rfl,hp,hip,q2,q4,s0,r,hr,Lb⟩;by_cases zQ:pos<s.length
 ·have Pd:s.drop pos≠[]:=fun h=>by have:=congrArg List.length h;rw[gP,aX]at this;omega
  have Ac:=Go.Lib.decodeL_le (s.drop pos) Pd;rw[gP]at Ac;have hw:=Go.Lib.decodeL_width (s.drop pos);simp only[z2,seval,q2,q4,s0,show Nat.blt pos s.length=true from by simp[Nat.blt_eq,zQ],decodeD_L,gW (show i<9223372036854775807 by omega)]
  rw[cntL_step Pd]at hr;split at hr
  ·cases hr
  ·simp only[aT,List.drop_drop]at hr;obtain⟨r',Bk,rfl⟩:=hr;exact⟨by omega,_,_,_,pos+(decodeL (s.drop pos)).2,rfl,by omega,by omega,by simp[aA],by simp[aA,q4],by rw[aU,aS rfl],r',Bk,by omega⟩
 ·simp only[z2,seval,q2,q4,s0,show Nat.blt pos s.length=false from by rw[←gI,Nat.blt_eq];exact zQ,A164]
  rw[List.drop_eq_nil_of_le (by omega),cntL_nil]at hr
  cases hr;rw[show i=m by omega];rfl
/-! How many operands. -/
def arD(p:Int):D:=if p<1∨40<p then e2 0 2 else if p≤14 then e2 1 0 else e2 2 0
theorem c147(n:Nat)(p:Int):cl n 147 [.int .i64 p]=some (arD p,true):=by
 rw[iP 147 A147 B147];unfold arD;simp only[B147,cI];by_cases h1:p<1
 ·simp only[z0,seval,aH h1,A147];rw[aS (.inl h1)];rfl
 ·by_cases h2:40<p
  ·simp only[z0,seval,aE h1,aH h2,A147];rw[aS (.inr h2)];rfl
  ·by_cases h3:p≤14
   ·simp only[z0,seval,aE h1,aE h2,aH h3,A147];rw[aG (by omega),aS h3];rfl
   ·simp only[z0,seval,aE h1,aE h2,aE h3,A147];rw[aG (by omega),aG h3];rfl
def arOk(i:Nat)(x:Option (D×Bool)):Bool:=match x with
 | some (.tup [.int .i64 a,.int .i64 e],true)=>decide (e=0)&&decide (a=if i≤14 then 1 else 2)
 | _=>false
theorem ar163(n:Nat):((List.range 40).all fun(i:Nat)=>arOk (i+1) (cl (n+4) 163 [.int .i64 ((i+1:Nat):Int)]))=true:=by kernel_rfl
theorem c213e(n:Nat){p:Int}(h:p<1∨40<p):cl n 213 [.int .i64 p]=some (.tup [.agg [.str [],.nils,.nils,.nilfn,.nilfn],.int .i64 2],true):=by
 rw[iP 213 A213 B213,B213];by_cases h1:p<1
 ·simp only[z0,seval,aH h1,A213];rfl
 ·simp only[z0,seval,aE h1,aH (show 40<p by omega),A213];rfl
theorem c163(n:Nat)(p:Int):cl (n+4) 163 [.int .i64 p]=some (arD p,true):=by
 by_cases h:p<1∨40<p
 ·rw[iP 163 A163 B163,B163];simp only[z0,seval,aF 213,aJ,c213e (n+3) h,D.pures,D.pure,dJ,aN,aQ,A163];rw[arD,aS h];rfl
 ·obtain⟨k,hk,rfl⟩:∃k:Nat,k<40∧p=((k+1:Nat):Int):=⟨(p-1).toNat,by omega,by omega⟩
  have:=cF.1 (ar163 n) k (List.mem_range.2 hk);unfold arOk at this;split at this
  ·rename_i a e hx;simp only[bW,bZ]at this;rw[hx,arD,aG h,this.1,this.2];by_cases Aq:k+1≤14
   ·rw[aS (by omega),aS (by omega)];rfl
   ·rw[aG (by omega),aG (by omega)];rfl
  ·cases this
structure Nd where
 kind:Int
 prim:Int
 kids:Int
 name:List UInt8
 text:List UInt8
 n:Int
 site:Int
def bK(x:Nd):List D:=[.int .i64 x.kind,.int .i64 x.prim,.int .i64 x.kids,.str x.name,.str x.text,.int .i64 x.n,.int .i64 x.site]
def fO(x:Nd):Int:=if x.kind=5∨x.kind=6 then x.kids else 0
theorem c148(n:Nat)(x:Nd):cl n 148 [.agg (bK x)]=some (.int .i64 (fO x),true):=by
 rw[iP 148 A148 B148];unfold bK;simp only[B148,cI];by_cases h5:x.kind=5
 ·have hm:fO x=x.kids:=aS (.inl h5);simp only[z0,seval,h5,aQ,hm,A148];rfl
 ·by_cases h6:x.kind=6
  ·have hm:fO x=x.kids:=aS (.inr h6);simp only[z0,seval,h6,aQ,aP,hm,A148];rfl
  ·have hm:fO x=0:=aG (fun h=>h.elim h5 h6)
   simp only[z0,seval,aL h5,aL h6,aP,hm,A148];rfl
theorem zA(p:Int):(∃a:Int,arD p=e2 a 0∧¬(p<1∨40<p)∧a=if p≤14 then 1 else 2)∨(arD p=e2 0 2∧(p<1∨40<p)):=by
 grind [arD]
def surB(x:Nd):Bool:=(!decide (x.kind=1) && !decide (x.n=0))||((!decide (x.kind=2) && !decide (x.text=[]))||((!decide (x.kind=4)&&(!decide (x.kind=6) && !decide (x.name=[])))||((!decide (x.kind=5) && !decide (x.prim=0))||((decide (x.kind=5)&&decide (x.prim<1∨40<x.prim))||((decide (x.kind=1)||(decide (x.kind=2)||decide (x.kind=4))) && !decide (x.kids=0))))))
theorem zbind_assoc(r:R)(f g:AS→R):zbind (zbind r f) g=zbind r fun x=>zbind (f x) g:=by
 cases r with
 | no=>rfl
 | ok o y=>cases o<;>rfl
theorem kV(cx:Cx)(cl:CL)(b:List cR):∀(a:List cR) (x:AS),lM cx cl (a++b) x=zbind (lM cx cl a x) (lM cx cl b)
 | [],x=>rfl
 | o::a,x=>by
  rw[cA,zOps_cons,zOps_cons];split
  ·rfl
  ·rw[zbind_assoc]
   congr 1
   funext y
   exact kV cx cl b a y
  ·exact kV cx cl b a _
def St145(x:Nd)(st:St)(t:Tm)(er:Int):Prop:=sget st 0=some (.fix 57 (bK x))∧tget t 1 = .ptr 0 0∧tget t 4 = .int .i64 er
variable {x:Nd}
theorem p1{cl:CL}(h:St145 x st t er):∃t',lM cx cl G1 ⟨t,st,c,[],none⟩ = .ok .normal ⟨t',st,c,[],none⟩∧St145 x st t' er∧tget t' 18 = .bool (!decide (x.kind=1) && !decide (x.n=0)):=by
 obtain⟨s0,q1,q4⟩:=h;unfold bK at s0;unfold G1;cases h1:decide (x.kind=1)
 ·cases h2:decide (x.n=0)
  ·simp only[z0,seval,s0,q1,q4,dJ,aM,aN,aQ,aP,bN,bD,aW,h1,h2];exact⟨_,rfl,⟨s0,by simp[aA,q1],by simp[aA,q4]⟩,by simp[aA]⟩
  ·simp only[z0,seval,s0,q1,q4,dJ,aM,aN,aQ,aP,bN,bD,aW,h1,h2];exact⟨_,rfl,⟨s0,by simp[aA,q1],by simp[aA,q4]⟩,by simp[aA]⟩
 ·simp only[z0,seval,s0,q1,q4,dJ,aM,aN,aQ,aP,bN,bD,aW,h1];exact⟨_,rfl,⟨s0,by simp[aA,q1],by simp[aA,q4]⟩,by simp[aA]⟩
theorem p2{cl:CL}(h:St145 x st t er)(hb:tget t 18 = .bool b):∃t',lM cx cl G2 ⟨t,st,c,[],none⟩ = .ok .normal ⟨t',st,c,[],none⟩∧St145 x st t' er∧tget t' 28 = .bool (b||(!decide (x.kind=2) && !decide (x.text=[]))):=by
 obtain⟨s0,q1,q4⟩:=h;unfold bK at s0;unfold G2;cases b
 ·cases h1:decide (x.kind=2)
  ·cases h2:decide (x.text=[])
   ·simp only[z0,seval,s0,q1,q4,dJ,aM,aN,aQ,aP,bN,bD,aW,hb,h1,h2];exact⟨_,rfl,⟨s0,by simp[aA,q1],by simp[aA,q4]⟩,by simp[aA]⟩
   ·simp only[z0,seval,s0,q1,q4,dJ,aM,aN,aQ,aP,bN,bD,aW,hb,h1,h2];exact⟨_,rfl,⟨s0,by simp[aA,q1],by simp[aA,q4]⟩,by simp[aA]⟩
  ·simp only[z0,seval,s0,q1,q4,dJ,aM,aN,aQ,aP,bN,bD,aW,hb,h1];exact⟨_,rfl,⟨s0,by simp[aA,q1],by simp[aA,q4]⟩,by simp[aA]⟩
 ·simp only[z0,seval,s0,q1,q4,dJ,aM,aN,aQ,aP,bN,bD,aW,hb];exact⟨_,rfl,⟨s0,by simp[aA,q1],by simp[aA,q4]⟩,by simp[aA]⟩
theorem p3{cl:CL}(h:St145 x st t er)(hb:tget t 28 = .bool b):∃t',lM cx cl G3 ⟨t,st,c,[],none⟩ = .ok .normal ⟨t',st,c,[],none⟩∧St145 x st t' er∧tget t' 43 = .bool (b||(!decide (x.kind=4)&&(!decide (x.kind=6) && !decide (x.name=[])))):=by
 obtain⟨s0,q1,q4⟩:=h;unfold bK at s0;unfold G3;cases b
 ·cases h1:decide (x.kind=4)
  ·cases h2:decide (x.kind=6)
   ·cases h3:decide (x.name=[])
    ·simp only[z0,seval,s0,q1,q4,dJ,aM,aN,aQ,aP,bN,bD,aW,hb,h1,h2,h3];exact⟨_,rfl,⟨s0,by simp[aA,q1],by simp[aA,q4]⟩,by simp[aA]⟩
    ·simp only[z0,seval,s0,q1,q4,dJ,aM,aN,aQ,aP,bN,bD,aW,hb,h1,h2,h3];exact⟨_,rfl,⟨s0,by simp[aA,q1],by simp[aA,q4]⟩,by simp[aA]⟩
   ·simp only[z0,seval,s0,q1,q4,dJ,aM,aN,aQ,aP,bN,bD,aW,hb,h1,h2];exact⟨_,rfl,⟨s0,by simp[aA,q1],by simp[aA,q4]⟩,by simp[aA]⟩
  ·simp only[z0,seval,s0,q1,q4,dJ,aM,aN,aQ,aP,bN,bD,aW,hb,h1];exact⟨_,rfl,⟨s0,by simp[aA,q1],by simp[aA,q4]⟩,by simp[aA]⟩
 ·simp only[z0,seval,s0,q1,q4,dJ,aM,aN,aQ,aP,bN,bD,aW,hb];exact⟨_,rfl,⟨s0,by simp[aA,q1],by simp[aA,q4]⟩,by simp[aA]⟩
theorem p4{cl:CL}(h:St145 x st t er)(hb:tget t 43 = .bool b):∃t',lM cx cl G4 ⟨t,st,c,[],none⟩ = .ok .normal ⟨t',st,c,[],none⟩∧St145 x st t' er∧tget t' 53 = .bool (b||(!decide (x.kind=5) && !decide (x.prim=0))):=by
 obtain⟨s0,q1,q4⟩:=h;unfold bK at s0;unfold G4;cases b
 ·cases h1:decide (x.kind=5)
  ·cases h2:decide (x.prim=0)
   ·simp only[z0,seval,s0,q1,q4,dJ,aM,aN,aQ,aP,bN,bD,aW,hb,h1,h2];exact⟨_,rfl,⟨s0,by simp[aA,q1],by simp[aA,q4]⟩,by simp[aA]⟩
   ·simp only[z0,seval,s0,q1,q4,dJ,aM,aN,aQ,aP,bN,bD,aW,hb,h1,h2];exact⟨_,rfl,⟨s0,by simp[aA,q1],by simp[aA,q4]⟩,by simp[aA]⟩
  ·simp only[z0,seval,s0,q1,q4,dJ,aM,aN,aQ,aP,bN,bD,aW,hb,h1];exact⟨_,rfl,⟨s0,by simp[aA,q1],by simp[aA,q4]⟩,by simp[aA]⟩
 ·simp only[z0,seval,s0,q1,q4,dJ,aM,aN,aQ,aP,bN,bD,aW,hb];exact⟨_,rfl,⟨s0,by simp[aA,q1],by simp[aA,q4]⟩,by simp[aA]⟩
theorem p5{cl:CL}(h:St145 x st t er)(hb:tget t 53 = .bool b):∃t',lM cx cl G5 ⟨t,st,c,[],none⟩ = .ok .normal ⟨t',st,c,[],none⟩∧St145 x st t' er∧tget t' 62 = .bool (b||(decide (x.kind=5) && !decide (er=0))):=by
 obtain⟨s0,q1,q4⟩:=h;unfold bK at s0;unfold G5;cases b
 ·cases h1:decide (x.kind=5)
  ·simp only[z0,seval,s0,q1,q4,dJ,aM,aN,aQ,aP,bN,bD,aW,hb,h1];exact⟨_,rfl,⟨s0,by simp[aA,q1],by simp[aA,q4]⟩,by simp[aA]⟩
  ·cases h2:decide (er=0)
   ·simp only[z0,seval,s0,q1,q4,dJ,aM,aN,aQ,aP,bN,bD,aW,hb,h1,h2];exact⟨_,rfl,⟨s0,by simp[aA,q1],by simp[aA,q4]⟩,by simp[aA]⟩
   ·simp only[z0,seval,s0,q1,q4,dJ,aM,aN,aQ,aP,bN,bD,aW,hb,h1,h2];exact⟨_,rfl,⟨s0,by simp[aA,q1],by simp[aA,q4]⟩,by simp[aA]⟩
 ·simp only[z0,seval,s0,q1,q4,dJ,aM,aN,aQ,aP,bN,bD,aW,hb];exact⟨_,rfl,⟨s0,by simp[aA,q1],by simp[aA,q4]⟩,by simp[aA]⟩
set_option maxHeartbeats 1000000 in
theorem p6{cl:CL}(h:St145 x st t er)(hb:tget t 62 = .bool b):∃t',lM cx cl G6 ⟨t,st,c,[],none⟩ = .ok .normal ⟨t',st,c,[],none⟩∧St145 x st t' er∧tget t' 2 = .bool (b||((decide (x.kind=1)||(decide (x.kind=2)||decide (x.kind=4))) && !decide (x.kids=0))):=by
 obtain⟨s0,q1,q4⟩:=h;unfold bK at s0;unfold G6;cases b
 ·cases h1:decide (x.kind=1)
  ·cases h2:decide (x.kind=2)
   ·cases h3:decide (x.kind=4)
    ·simp only[z0,seval,s0,q1,q4,dJ,aM,aN,aQ,aP,bN,bD,aW,hb,h1,h2,h3];exact⟨_,rfl,⟨s0,by simp[aA,q1],by simp[aA,q4]⟩,by simp[aA]⟩
    ·cases h4:decide (x.kids=0)
     ·simp only[z0,seval,s0,q1,q4,dJ,aM,aN,aQ,aP,bN,bD,aW,hb,h1,h2,h3,h4];exact⟨_,rfl,⟨s0,by simp[aA,q1],by simp[aA,q4]⟩,by simp[aA]⟩
     ·simp only[z0,seval,s0,q1,q4,dJ,aM,aN,aQ,aP,bN,bD,aW,hb,h1,h2,h3,h4];exact⟨_,rfl,⟨s0,by simp[aA,q1],by simp[aA,q4]⟩,by simp[aA]⟩
   ·cases h4:decide (x.kids=0)
    ·simp only[z0,seval,s0,q1,q4,dJ,aM,aN,aQ,aP,bN,bD,aW,hb,h1,h2,h4];exact⟨_,rfl,⟨s0,by simp[aA,q1],by simp[aA,q4]⟩,by simp[aA]⟩
    ·simp only[z0,seval,s0,q1,q4,dJ,aM,aN,aQ,aP,bN,bD,aW,hb,h1,h2,h4];exact⟨_,rfl,⟨s0,by simp[aA,q1],by simp[aA,q4]⟩,by simp[aA]⟩
  ·cases h4:decide (x.kids=0)
   ·simp only[z0,seval,s0,q1,q4,dJ,aM,aN,aQ,aP,bN,bD,aW,hb,h1,h4];exact⟨_,rfl,⟨s0,by simp[aA,q1],by simp[aA,q4]⟩,by simp[aA]⟩
   ·simp only[z0,seval,s0,q1,q4,dJ,aM,aN,aQ,aP,bN,bD,aW,hb,h1,h4];exact⟨_,rfl,⟨s0,by simp[aA,q1],by simp[aA,q4]⟩,by simp[aA]⟩
 ·simp only[z0,seval,s0,q1,q4,dJ,aM,aN,aQ,aP,bN,bD,aW,hb];exact⟨_,rfl,⟨s0,by simp[aA,q1],by simp[aA,q4]⟩,by simp[aA]⟩
theorem region145{cl:CL}(h:St145 x st t er):∃t',lM cx cl (G1++(G2++(G3++(G4++(G5++G6))))) ⟨t,st,c,[],none⟩ = .ok .normal ⟨t',st,c,[],none⟩ ∧
  tget t' 2 = .bool ((((((!decide (x.kind=1) && !decide (x.n=0))||(!decide (x.kind=2) && !decide (x.text=[])))||(!decide (x.kind=4)&&(!decide (x.kind=6) && !decide (x.name=[]))))||(!decide (x.kind=5) && !decide (x.prim=0)))||(decide (x.kind=5) && !decide (er=0)))||((decide (x.kind=1)||(decide (x.kind=2)||decide (x.kind=4))) && !decide (x.kids=0))):=by
 obtain⟨t1,e1,h1,b1⟩:=p1 (cx:=cx) (cl:=cl) (c:=c) h;obtain⟨t2,e2,h2,b2⟩:=p2 (cx:=cx) (cl:=cl) (c:=c) h1 b1;obtain⟨t3,e3,h3,b3⟩:=p3 (cx:=cx) (cl:=cl) (c:=c) h2 b2;obtain⟨t4,e4,h4,b4⟩:=p4 (cx:=cx) (cl:=cl) (c:=c) h3 b3;obtain⟨t5,e5,h5,b5⟩:=p5 (cx:=cx) (cl:=cl) (c:=c) h4 b4;obtain⟨t6,e6,h6,b6⟩:=p6 (cx:=cx) (cl:=cl) (c:=c) h5 b5;refine⟨t6,?_,b6⟩;rw[kV,e1]
 show lM cx cl (G2++(G3++(G4++(G5++G6)))) _=_;rw[kV,e2];show lM cx cl (G3++(G4++(G5++G6))) _=_;rw[kV,e3];show lM cx cl (G4++(G5++G6)) _=_;rw[kV,e4];show lM cx cl (G5++G6) _=_;rw[kV,e5];exact e6
theorem c145(n:Nat)(x:Nd):cl (n+1) 145 [.agg (bK x)]=some (.bool (surB x),true):=by
 rw[uG 145 A145 B145,B145]
 have It:∀er:Int,decide (er=0) = !decide (x.prim<1∨40<x.prim)→((((((!decide (x.kind=1) && !decide (x.n=0))||(!decide (x.kind=2) && !decide (x.text=[])))||(!decide (x.kind=4)&&(!decide (x.kind=6) && !decide (x.name=[]))))||(!decide (x.kind=5) && !decide (x.prim=0)))||(decide (x.kind=5) && !decide (er=0)))||((decide (x.kind=1)||(decide (x.kind=2)||decide (x.kind=4))) && !decide (x.kids=0)))=surB x:=fun er h=>by
  grind [surB,Bool.or_assoc]
 have hreg:∀(cx:Cx) (cl:CL) (k:Nat) (l:List cR) (y:AS),zC (.reg none l) cx cl k y=lM cx cl l y:=fun _ _ _ _ _=>rfl
 have run:∀er:Int,arD x.prim=e2 (match arD x.prim with | .tup [.int _ a,_]=>a|_=>0) er→decide (er=0) = !decide (x.prim<1∨40<x.prim)→pout (zbody (dfn (n+1) MM) A145 (zC B145 (cxn (n+1)) (fn (n+1) 4096) KK (start [.agg (bK x)] st0 0)))=some (.bool (surB x),true):=fun er hf her=>by
  rw[B145];generalize (match arD x.prim with | .tup [.int _ a,_]=>a|_=>0)=a at hf
  have hn:eG (D.agg (bK x))=true:=rfl;unfold bK;simp only[z0,seval,aF 147,aJ,c147,dV,hf];generalize hT:tput _ 4 _=T;generalize hS:sadd st0 0 _=S;have h1:tget T 1 = .ptr 0 0:=by rw[←hT];simp[aA]
  have h4:tget T 4 = .int .i64 er:=by rw[←hT];simp[aA]
  have s0:sget S 0=some (.fix 57 (bK x)):=by rw[←hS];simp[aA,bK]
  obtain⟨t',e',b'⟩:=region145 (cx:=cxn (n+1)) (cl:=fn (n+1) 4096) (c:=1) (er:=er) (x:=x) ⟨s0,h1,h4⟩;rw[e',It er her]at *;simp only[z0,seval,b',A145];rfl
 rcases zA x.prim with⟨a,hf,hr,_⟩|⟨hf,hr⟩
 ·have h:=run 0 (by rw[hf];rfl) (by simp[hr])
  rw[B145]at h;exact h
 ·have h:=run 2 (by rw[hf];rfl) (by simp[hr])
  rw[B145]at h;exact h
def gT(x:Nd):Nd:=
 if x.kind=1 then⟨0,x.prim,x.kids,x.name,x.text,0,0⟩ else
 if x.kind=2 then⟨0,x.prim,x.kids,x.name,[],x.n,0⟩ else
 if x.kind=5 then⟨0,0,0,x.name,x.text,x.n,0⟩ else
 if x.kind=6 then⟨0,x.prim,0,[],x.text,x.n,0⟩ else
 if x.kind=4 then⟨0,x.prim,x.kids,[],x.text,x.n,0⟩ else
 if x.kind=3 then⟨0,x.prim,0,x.name,x.text,x.n,0⟩ else⟨0,x.prim,x.kids,x.name,x.text,x.n,0⟩
def isK(x:Nd):Bool:=decide (x.kind=5)||decide (x.kind=6)
theorem c123(n:Nat)(x:Nd):cl n 123 [.agg (bK x)]=some (.tup [.agg (bK (gT x)),.bool (isK x)],true):=by
 rw[iP 123 A123 B123];have zY:cX [.int .i64 x.kind,.int .i64 x.prim,.int .i64 x.kids,.str x.name,.str x.text,.int .i64 x.n,.int .i64 x.site] 0 (some 7)=some (.agg [.int .i64 x.kind,.int .i64 x.prim,.int .i64 x.kids,.str x.name,.str x.text,.int .i64 x.n,.int .i64 x.site]):=rfl;simp only[B123,cI];by_cases k1:x.kind=1
 ·have hr:gT x=⟨0,x.prim,x.kids,x.name,x.text,0,0⟩:=aS k1;have hi:isK x=false:=by rw[isK,k1];rfl
  rw[hr,hi];unfold bK;simp only[z0,seval,k1,aQ,aP,A123];rfl
 by_cases k2:x.kind=2
 ·have hr:gT x=⟨0,x.prim,x.kids,x.name,[],x.n,0⟩:=by rw[gT,aG k1,aS k2]
  have hi:isK x=false:=by rw[isK,k2];rfl
  rw[hr,hi];unfold bK;simp only[z0,seval,k2,aQ,aP,A123];rfl
 by_cases k5:x.kind=5
 ·have hr:gT x=⟨0,0,0,x.name,x.text,x.n,0⟩:=by rw[gT,aG k1,aG k2,aS k5]
  have hi:isK x=true:=by rw[isK,k5];rfl
  rw[hr,hi];unfold bK;simp only[z0,seval,k5,aQ,aP,A123];rfl
 by_cases k6:x.kind=6
 ·have hr:gT x=⟨0,x.prim,0,[],x.text,x.n,0⟩:=by rw[gT,aG k1,aG k2,aG k5,aS k6]
  have hi:isK x=true:=by rw[isK,k6];rfl
  rw[hr,hi];unfold bK;simp only[z0,seval,k6,aQ,aP,A123];rfl
 by_cases k4:x.kind=4
 ·have hr:gT x=⟨0,x.prim,x.kids,[],x.text,x.n,0⟩:=by rw[gT,aG k1,aG k2,aG k5,aG k6,aS k4]
  have hi:isK x=false:=by rw[isK,k4];rfl
  rw[hr,hi];unfold bK;simp only[z0,seval,k4,aQ,aP,A123];rfl
 by_cases k3:x.kind=3
 ·have hr:gT x=⟨0,x.prim,0,x.name,x.text,x.n,0⟩:=by rw[gT,aG k1,aG k2,aG k5,aG k6,aG k4,aS k3]
  have hi:isK x=false:=by rw[isK,k3];rfl
  rw[hr,hi];unfold bK;simp only[z0,seval,k3,aQ,aP,A123];rfl
 have hr:gT x=⟨0,x.prim,x.kids,x.name,x.text,x.n,0⟩:=by rw[gT,aG k1,aG k2,aG k5,aG k6,aG k4,aG k3]
 have hi:isK x=false:=by rw[isK,aE k5,aE k6];rfl
 rw[hr,hi];unfold bK;simp only[z0,seval,aE k1,aE k2,aE k3,aE k4,aE k5,aE k6,A123];rfl
def StF(x:Nd)(st:St)(t:Tm)(ar:Int):Prop:=sget st 0=some (.fix 57 (bK x))∧sget st 1=some (.fix 57 (bK (gT x)))∧tget t 1 = .ptr 0 0∧tget t 6 = .ptr 1 0∧tget t 3 = .int .i64 ar
def StepF(V V':AC)(n:Nat)(x:Nd)(b:Bool)(e ar:Int):Prop:=∀{t:Tm} {st:St} {c:Nat},StF x st t ar →
 (b=true→∃t',zC V (cxn (n+9)) (fn (n+9) 4096) KK ⟨t,st,c,[],none⟩ = .ok .ret ⟨t',st,c,[],none⟩∧tget t' 2 = .int .i64 e) ∧
 (b=false→∃t',zC V (cxn (n+9)) (fn (n+9) 4096) KK ⟨t,st,c,[],none⟩=zC V' (cxn (n+9)) (fn (n+9) 4096) KK ⟨t',st,c,[],none⟩∧StF x st t' ar)
def zeroB(y:Nd):Bool:=(y.kind==0)&&((y.prim==0)&&((y.kids==0)&&((y.name==[])&&((y.text==[])&&((y.n==0)&&(y.site==0))))))
theorem zero_cmp(y:Nd):oW (.ty (.parts [(0,none,.int),(1,none,.int),(2,none,.int),(3,none,.str),(4,none,.str),(5,none,.int),(6,none,.int)])) (.agg [.int .i64 y.kind,.int .i64 y.prim,.int .i64 y.kids,.str y.name,.str y.text,.int .i64 y.n,.int .i64 y.site]) (.agg [.int .i64 0,.int .i64 0,.int .i64 0,.str [],.str [],.int .i64 0,.int .i64 0])=some (zeroB y):=by
 have h:∀a b c d e f g:Bool,(bif a then bif b then bif c then bif d then bif e then bif f then bif g then some true else some false else some false else some false else some false else some false else some false else some false)=some (a&&(b&&(c&&(d&&(e&&(f&&g)))))):=by decide
 exact h (y.kind==0) (y.prim==0) (y.kids==0) (y.name==[]) (y.text==[]) (y.n==0) (y.site==0)
theorem V3_ok(n:Nat)(x:Nd):StepF V3 V4 n x (!zeroB (gT x)) 2 ar:=fun {t st c} h=>by
 obtain⟨s0,s1,q1,q6,q3⟩:=h;have Bg:=s0;have Hz:=s1;unfold bK at s0 s1
 have zY:cX [.int .i64 (gT x).kind,.int .i64 (gT x).prim,.int .i64 (gT x).kids,.str (gT x).name,.str (gT x).text,.int .i64 (gT x).n,.int .i64 (gT x).site] 0 (some 7)=some (.agg [.int .i64 (gT x).kind,.int .i64 (gT x).prim,.int .i64 (gT x).kids,.str (gT x).name,.str (gT x).text,.int .i64 (gT x).n,.int .i64 (gT x).site]):=rfl;have hz:=zero_cmp (gT x)
 simp only[V3,Ab.abq];cases h1:zeroB (gT x)
 ·simp only[z2,seval,s0,s1,q1,q6,q3,dJ,aM,aN,aQ,aP,bN,bD,aW,h1,zY,hz,bR];exact⟨fun _=>⟨_,rfl,by simp[aA]⟩,nofun⟩
 ·simp only[z2,seval,s0,s1,q1,q6,q3,dJ,aM,aN,aQ,aP,bN,bD,aW,h1,zY,hz,bR];exact⟨nofun,fun _=>⟨_,rfl,Bg,Hz,by simp[aA,q1],by simp[aA,q6],by simp[aA,q3]⟩⟩
theorem V4_ok(n:Nat)(x:Nd):StepF V4 V5 n x (decide (x.site<0)||decide (1000000000<x.site)) 7 ar:=fun {t st c} h=>by
 obtain⟨s0,s1,q1,q6,q3⟩:=h;have Bg:=s0;have Hz:=s1;unfold bK at s0 s1;simp only[V4,Ab.abq];cases h1:decide (x.site<0)
 ·cases h2:decide (1000000000<x.site)
  ·simp only[z0,seval,s0,s1,q1,q6,q3,dJ,aM,aN,aQ,aP,bN,bD,aW,h1,h2];exact⟨nofun,fun _=>⟨_,rfl,Bg,Hz,by simp[aA,q1],by simp[aA,q6],by simp[aA,q3]⟩⟩
  ·simp only[z0,seval,s0,s1,q1,q6,q3,dJ,aM,aN,aQ,aP,bN,bD,aW,h1,h2];exact⟨fun _=>⟨_,rfl,by simp[aA]⟩,nofun⟩
 ·simp only[z0,seval,s0,s1,q1,q6,q3,dJ,aM,aN,aQ,aP,bN,bD,aW,h1];exact⟨fun _=>⟨_,rfl,by simp[aA]⟩,nofun⟩
theorem V5_ok(n:Nat)(x:Nd)(ht:x.text.length<4294967296):StepF V5 V6 n x (!Go.Lib.validD x.text) 6 ar:=fun {t st c} h=>by
 obtain⟨s0,s1,q1,q6,q3⟩:=h;have Bg:=s0;have Hz:=s1;unfold bK at s0 s1;have Wm:decide (x.text.length≤9223372036854775807)=true:=aH (by omega)
 simp only[V5,Ab.abq];cases h1:Go.Lib.validD x.text
 ·simp only[z0,seval,s0,s1,q1,q6,q3,dJ,aM,aN,aQ,aP,bN,bD,aW,h1,fn_spec (f:=158) (g:=pI) rfl rfl,pI,Wm];exact⟨fun _=>⟨_,rfl,by simp[aA]⟩,nofun⟩
 ·simp only[z0,seval,s0,s1,q1,q6,q3,dJ,aM,aN,aQ,aP,bN,bD,aW,h1,fn_spec (f:=158) (g:=pI) rfl rfl,pI,Wm];exact⟨nofun,fun _=>⟨_,rfl,Bg,Hz,by simp[aA,q1],by simp[aA,q6],by simp[aA,q3]⟩⟩
theorem V6_ok(n:Nat)(x:Nd){k:Nat}(hk:yT x.text=some k)(ht:x.text.length<4294967296):StepF V6 V7 n x (decide (400<((k:Nat):Int))||(decide (x.kind=3)&&decide (400≤x.kids))) 3 ar:=fun {t st c} h=>by
 obtain⟨s0,s1,q1,q6,q3⟩:=h;have Bg:=s0;have Hz:=s1;unfold bK at s0 s1;have Pl:=c164 (n+8) hk ht;simp only[V6,Ab.abq];cases h1:decide (400<((k:Nat):Int))
 ·cases h2:decide (x.kind=3)
  ·simp only[z0,seval,s0,s1,q1,q6,q3,dJ,aM,aN,aQ,aP,bN,bD,aW,h1,h2,aF 164,aJ,Pl];exact⟨nofun,fun _=>⟨_,rfl,Bg,Hz,by simp[aA,q1],by simp[aA,q6],by simp[aA,q3]⟩⟩
  ·cases h3:decide (400≤x.kids)
   ·simp only[z0,seval,s0,s1,q1,q6,q3,dJ,aM,aN,aQ,aP,bN,bD,aW,h1,h2,h3,aF 164,aJ,Pl];exact⟨nofun,fun _=>⟨_,rfl,Bg,Hz,by simp[aA,q1],by simp[aA,q6],by simp[aA,q3]⟩⟩
   ·simp only[z0,seval,s0,s1,q1,q6,q3,dJ,aM,aN,aQ,aP,bN,bD,aW,h1,h2,h3,aF 164,aJ,Pl];exact⟨fun _=>⟨_,rfl,by simp[aA]⟩,nofun⟩
 ·simp only[z0,seval,s0,s1,q1,q6,q3,dJ,aM,aN,aQ,aP,bN,bD,aW,h1,aF 164,aJ,Pl];exact⟨fun _=>⟨_,rfl,by simp[aA]⟩,nofun⟩
theorem V7_ok(n:Nat)(x:Nd):StepF V7 V8.b n x ((decide (x.kind=3)&&decide (x.kids<0))||((decide (x.kind=5) && !decide (x.kids=ar))||(decide (x.kind=6)&&(decide (x.kids<1)||decide (2<x.kids))))) 23 ar:=fun {t st c} h=>by
 obtain⟨s0,s1,q1,q6,q3⟩:=h;have Bg:=s0;have Hz:=s1;unfold bK at s0 s1;simp only[V7,Ab.abq];by_cases k3:x.kind=3
 ·rw[k3];rw[k3]at s0;cases h1:decide (x.kids<0)
  ·simp only[z0,seval,s0,s1,q1,q6,q3,dJ,aM,aN,aQ,aP,bN,bD,aW,h1];exact⟨nofun,fun _=>⟨_,rfl,Bg,Hz,by simp[aA,q1],by simp[aA,q6],by simp[aA,q3]⟩⟩
  ·simp only[z0,seval,s0,s1,q1,q6,q3,dJ,aM,aN,aQ,aP,bN,bD,aW,h1];exact⟨fun _=>⟨_,rfl,by simp[aA]⟩,nofun⟩
 by_cases k5:x.kind=5
 ·rw[k5];rw[k5]at s0;cases h1:decide (x.kids=ar)
  ·simp only[z0,seval,s0,s1,q1,q6,q3,dJ,aM,aN,aQ,aP,bN,bD,aW,h1];exact⟨fun _=>⟨_,rfl,by simp[aA]⟩,nofun⟩
  ·simp only[z0,seval,s0,s1,q1,q6,q3,dJ,aM,aN,aQ,aP,bN,bD,aW,h1];exact⟨nofun,fun _=>⟨_,rfl,Bg,Hz,by simp[aA,q1],by simp[aA,q6],by simp[aA,q3]⟩⟩
 by_cases k6:x.kind=6
 ·rw[k6];rw[k6]at s0;cases h1:decide (x.kids<1)
  ·cases h2:decide (2<x.kids)
   ·simp only[z0,seval,s0,s1,q1,q6,q3,dJ,aM,aN,aQ,aP,bN,bD,aW,h1,h2];exact⟨nofun,fun _=>⟨_,rfl,Bg,Hz,by simp[aA,q1],by simp[aA,q6],by simp[aA,q3]⟩⟩
   ·simp only[z0,seval,s0,s1,q1,q6,q3,dJ,aM,aN,aQ,aP,bN,bD,aW,h1,h2];exact⟨fun _=>⟨_,rfl,by simp[aA]⟩,nofun⟩
  ·simp only[z0,seval,s0,s1,q1,q6,q3,dJ,aM,aN,aQ,aP,bN,bD,aW,h1];exact⟨fun _=>⟨_,rfl,by simp[aA]⟩,nofun⟩
 simp only[z0,seval,s0,s1,q1,q6,q3,dJ,aM,aN,aQ,aP,bN,bD,aW,aE k3,aE k5,aE k6];exact⟨nofun,fun _=>⟨_,rfl,Bg,Hz,by simp[aA,q1],by simp[aA,q6],by simp[aA,q3]⟩⟩
theorem V8_ok(n:Nat)(x:Nd)(hn:x.name.length<9223372036854775807):StepF V8.b .skip n x ((decide (x.kind=4)||decide (x.kind=6)) && !gF x.name) 24 ar:=fun {t st c} h=>by
 obtain⟨s0,s1,q1,q6,q3⟩:=h;have Bg:=s0;have Hz:=s1;unfold bK at s0 s1;have Jv:=c61 n x.name hn;simp only[V8,cI];by_cases k4:x.kind=4
 ·rw[k4];rw[k4]at s0;cases h9:gF x.name
  ·simp only[z0,seval,s0,s1,q1,q6,q3,dJ,aM,aN,aQ,aP,bN,bD,aW,h9,aF 61,aJ,Jv];exact⟨fun _=>⟨_,rfl,by simp[aA]⟩,nofun⟩
  ·simp only[z0,seval,s0,s1,q1,q6,q3,dJ,aM,aN,aQ,aP,bN,bD,aW,h9,aF 61,aJ,Jv];exact⟨nofun,fun _=>⟨_,rfl,Bg,Hz,by simp[aA,q1],by simp[aA,q6],by simp[aA,q3]⟩⟩
 by_cases k6:x.kind=6
 ·rw[k6];rw[k6]at s0;cases h9:gF x.name
  ·simp only[z0,seval,s0,s1,q1,q6,q3,dJ,aM,aN,aQ,aP,bN,bD,aW,h9,aF 61,aJ,Jv];exact⟨fun _=>⟨_,rfl,by simp[aA]⟩,nofun⟩
  ·simp only[z0,seval,s0,s1,q1,q6,q3,dJ,aM,aN,aQ,aP,bN,bD,aW,h9,aF 61,aJ,Jv];exact⟨nofun,fun _=>⟨_,rfl,Bg,Hz,by simp[aA,q1],by simp[aA,q6],by simp[aA,q3]⟩⟩
 simp only[z0,seval,s0,s1,q1,q6,q3,dJ,aM,aN,aQ,aP,bN,bD,aW,aE k4,aE k6];exact⟨nofun,fun _=>⟨_,rfl,Bg,Hz,by simp[aA,q1],by simp[aA,q6],by simp[aA,q3]⟩⟩
def StW(x:Nd)(st:St)(t:Tm)(cn ar:Option Int):Prop:=sget st 0=some (.fix 57 (bK x))∧tget t 1 = .ptr 0 0∧(∀v,cn=some v→tget t 3 = .int .i64 v)∧(∀v,ar=some v→tget t 4 = .int .i64 v)
def Stage(W:AC)(n:Nat)(x:Nd)(b:Bool)(e:Int)(cn ar:Option Int):Prop:=∀{t:Tm} {st:St} {c:Nat},StW x st t cn ar→∃t',zC W (cxn (n+5)) (fn (n+5) 4096) KK ⟨t,st,c,[],none⟩ = .ok (bif b then .ret else .normal) ⟨t',st,c,[],none⟩∧(b=true→tget t' 2 = .int .i64 e)∧StW x st t' cn ar
theorem W1_ok(n:Nat)(x:Nd):Stage W1.b n x (decide (x.kind<1)||(decide (6<x.kind)||surB x)) 2 none none:=fun {t st c} h=>by
 obtain⟨s0,q1,q3,q4⟩:=h;have Bg:=s0;unfold bK at s0;have Xf:=c145 (n+3) x;have zY:cX [.int .i64 x.kind,.int .i64 x.prim,.int .i64 x.kids,.str x.name,.str x.text,.int .i64 x.n,.int .i64 x.site] 0 (some 7)=some (.agg (bK x)):=rfl;have Bi:[D.agg (bK x)].mapM (frz false 20 st)=some [D.agg (bK x)]:=rfl;simp only[W1,cI];cases h1:decide (x.kind<1)
 ·cases h2:decide (6<x.kind)
  ·cases h3:surB x
   ·simp only[z2,seval,s0,q1,dJ,aM,aN,aQ,aP,bN,bD,aW,h1,h2,h3,zY,aF 145,aJ,Bi,Xf];exact⟨_,rfl,nofun,Bg,by simp[aA,q1],by grind,by grind⟩
   ·simp only[z2,seval,s0,q1,dJ,aM,aN,aQ,aP,bN,bD,aW,h1,h2,h3,zY,aF 145,aJ,Bi,Xf];exact⟨_,rfl,fun _=>by simp[aA],Bg,by simp[aA,q1],by grind,by grind⟩
  ·simp only[z0,seval,s0,q1,dJ,aM,aN,aQ,aP,bN,bD,aW,h1,h2];exact⟨_,rfl,fun _=>by simp[aA],Bg,by simp[aA,q1],by grind,by grind⟩
 ·simp only[z0,seval,s0,q1,dJ,aM,aN,aQ,aP,bN,bD,aW,h1];exact⟨_,rfl,fun _=>by simp[aA],Bg,by simp[aA,q1],by grind,by grind⟩
theorem W2_ok(n:Nat)(x:Nd):Stage W2.b n x (decide (x.site<0)||decide (1000000000<x.site)) 7 none none:=fun {t st c} h=>by
 obtain⟨s0,q1,q3,q4⟩:=h;have Bg:=s0;unfold bK at s0;simp only[W2,cI];cases h1:decide (x.site<0)
 ·cases h2:decide (1000000000<x.site)
  ·simp only[z0,seval,s0,q1,dJ,aM,aN,aQ,aP,bN,bD,aW,h1,h2];exact⟨_,rfl,nofun,Bg,by simp[aA,q1],by grind,by grind⟩
  ·simp only[z0,seval,s0,q1,dJ,aM,aN,aQ,aP,bN,bD,aW,h1,h2];exact⟨_,rfl,fun _=>by simp[aA],Bg,by simp[aA,q1],by grind,by grind⟩
 ·simp only[z0,seval,s0,q1,dJ,aM,aN,aQ,aP,bN,bD,aW,h1];exact⟨_,rfl,fun _=>by simp[aA],Bg,by simp[aA,q1],by grind,by grind⟩
theorem W3_ok(n:Nat)(x:Nd){cn:Int}:Stage W3.b n x (decide (cn<0)) 6 (some cn) none:=fun {t st c} h=>by
 obtain⟨s0,q1,q3,q4⟩:=h;have Bg:=s0;unfold bK at s0;have Iw:tget t 3 = .int .i64 cn:=q3 cn rfl;simp only[W3,cI];cases h1:decide (cn<0)
 ·simp only[z0,seval,s0,q1,dJ,aM,aN,aQ,aP,bN,bD,aW,Iw,h1];exact⟨_,rfl,nofun,Bg,by simp[aA,q1],by simpa[aA]using q3,by grind⟩
 ·simp only[z0,seval,s0,q1,dJ,aM,aN,aQ,aP,bN,bD,aW,Iw,h1];exact⟨_,rfl,fun _=>by simp[aA],Bg,by simp[aA,q1],by simpa[aA]using q3,by grind⟩
theorem W4_ok(n:Nat)(x:Nd){cn:Int}:Stage W4.b n x (decide (400<cn)||(decide (x.kind=3)&&decide (400≤x.kids))) 3 (some cn) none:=fun {t st c} h=>by
 obtain⟨s0,q1,q3,q4⟩:=h;have Bg:=s0;unfold bK at s0;have Iw:tget t 3 = .int .i64 cn:=q3 cn rfl;simp only[W4,cI];cases h1:decide (400<cn)
 ·cases h2:decide (x.kind=3)
  ·simp only[z0,seval,s0,q1,dJ,aM,aN,aQ,aP,bN,bD,aW,Iw,h1,h2];exact⟨_,rfl,nofun,Bg,by simp[aA,q1],by simpa[aA]using q3,by grind⟩
  ·cases h3:decide (400≤x.kids)
   ·simp only[z0,seval,s0,q1,dJ,aM,aN,aQ,aP,bN,bD,aW,Iw,h1,h2,h3];exact⟨_,rfl,nofun,Bg,by simp[aA,q1],by simpa[aA]using q3,by grind⟩
   ·simp only[z0,seval,s0,q1,dJ,aM,aN,aQ,aP,bN,bD,aW,Iw,h1,h2,h3];exact⟨_,rfl,fun _=>by simp[aA],Bg,by simp[aA,q1],by simpa[aA]using q3,by grind⟩
 ·simp only[z0,seval,s0,q1,dJ,aM,aN,aQ,aP,bN,bD,aW,Iw,h1];exact⟨_,rfl,fun _=>by simp[aA],Bg,by simp[aA,q1],by simpa[aA]using q3,by grind⟩
set_option maxHeartbeats 4000000 in
theorem W5_ok(n:Nat)(x:Nd):Stage W5.b n x ((decide (x.kind=3)&&decide (x.kids<0))||((decide (x.kind=5) && !decide (x.kids=ar))||(decide (x.kind=6)&&(!decide (x.kids=1) && !decide (x.kids=2))))) 23 none (some ar):=fun {t st c} h=>by
 obtain⟨s0,q1,q3,q4⟩:=h;have Bg:=s0;unfold bK at s0;have Py:tget t 4 = .int .i64 ar:=q4 ar rfl;simp only[W5,cI];by_cases k3:x.kind=3
 ·rw[k3];rw[k3]at s0;cases h1:decide (x.kids<0)
  ·simp(maxSteps:=1000000) only[cI,iW,Zv.ex,exb,Ab.abq,↓reduceIte,Nat.reduceEqDiff,Nat.reduceAdd,Nat.reduceLeDiff,reduceCtorEq,eS,s0,q1,Int.reduceEq,Int.reduceLT,Int.reduceLE,dJ,aM,aN,aQ,aP,bN,bD,aW,Py,h1];exact⟨_,rfl,nofun,Bg,by simp[aA,q1],by grind,by simpa[aA]using q4⟩
  ·simp(maxSteps:=1000000) only[cI,iW,Zv.ex,exb,Ab.abq,↓reduceIte,Nat.reduceEqDiff,Nat.reduceAdd,Nat.reduceLeDiff,reduceCtorEq,eS,s0,q1,Int.reduceEq,Int.reduceLT,Int.reduceLE,dJ,aM,aN,aQ,aP,bN,bD,aW,Py,h1]
   exact⟨_,rfl,fun _=>by simp[aA],Bg,by simp[aA,q1],by grind,by simpa[aA]using q4⟩
 by_cases k5:x.kind=5
 ·rw[k5];rw[k5]at s0;cases h1:decide (x.kids=ar)
  ·simp(maxSteps:=1000000) only[cI,iW,Zv.ex,exb,Ab.abq,↓reduceIte,Nat.reduceEqDiff,Nat.reduceAdd,Nat.reduceLeDiff,reduceCtorEq,eS,s0,q1,Int.reduceEq,Int.reduceLT,Int.reduceLE,dJ,aM,aN,aQ,aP,bN,bD,aW,Py,h1]
   exact⟨_,rfl,fun _=>by simp[aA],Bg,by simp[aA,q1],by grind,by simpa[aA]using q4⟩
  ·simp(maxSteps:=1000000) only[cI,iW,Zv.ex,exb,Ab.abq,↓reduceIte,Nat.reduceEqDiff,Nat.reduceAdd,Nat.reduceLeDiff,reduceCtorEq,eS,s0,q1,Int.reduceEq,Int.reduceLT,Int.reduceLE,dJ,aM,aN,aQ,aP,bN,bD,aW,Py,h1];exact⟨_,rfl,nofun,Bg,by simp[aA,q1],by grind,by simpa[aA]using q4⟩
 by_cases k6:x.kind=6
 ·rw[k6];rw[k6]at s0;cases h1:decide (x.kids=1)
  ·cases h2:decide (x.kids=2)
   ·simp(maxSteps:=1000000) only[cI,iW,Zv.ex,exb,Ab.abq,↓reduceIte,Nat.reduceEqDiff,Nat.reduceAdd,Nat.reduceLeDiff,reduceCtorEq,eS,s0,q1,Int.reduceEq,Int.reduceLT,Int.reduceLE,dJ,aM,aN,aQ,aP,bN,bD,aW,Py,h1,h2]
    exact⟨_,rfl,fun _=>by simp[aA],Bg,by simp[aA,q1],by grind,by simpa[aA]using q4⟩
   ·simp(maxSteps:=1000000) only[cI,iW,Zv.ex,exb,Ab.abq,↓reduceIte,Nat.reduceEqDiff,Nat.reduceAdd,Nat.reduceLeDiff,reduceCtorEq,eS,s0,q1,Int.reduceEq,Int.reduceLT,Int.reduceLE,dJ,aM,aN,aQ,aP,bN,bD,aW,Py,h1,h2];exact⟨_,rfl,nofun,Bg,by simp[aA,q1],by grind,by simpa[aA]using q4⟩
  ·simp(maxSteps:=1000000) only[cI,iW,Zv.ex,exb,Ab.abq,↓reduceIte,Nat.reduceEqDiff,Nat.reduceAdd,Nat.reduceLeDiff,reduceCtorEq,eS,s0,q1,Int.reduceEq,Int.reduceLT,Int.reduceLE,dJ,aM,aN,aQ,aP,bN,bD,aW,Py,h1];exact⟨_,rfl,nofun,Bg,by simp[aA,q1],by grind,by simpa[aA]using q4⟩
 simp(maxSteps:=1000000) only[cI,iW,Zv.ex,exb,Ab.abq,↓reduceIte,Nat.reduceEqDiff,Nat.reduceAdd,Nat.reduceLeDiff,reduceCtorEq,eS,s0,q1,Int.reduceEq,Int.reduceLT,Int.reduceLE,dJ,aM,aN,aQ,aP,bN,bD,aW,Py,aE k3,aE k5,aE k6]
 exact⟨_,rfl,nofun,Bg,by simp[aA,q1],by grind,by simpa[aA]using q4⟩
theorem W6_ok(n:Nat)(x:Nd)(hn:x.name.length<9223372036854775807):Stage W6.b n x ((decide (x.kind=4)||decide (x.kind=6)) && !gF x.name) 24 none none:=fun {t st c} h=>by
 obtain⟨s0,q1,q3,q4⟩:=h;have Bg:=s0;unfold bK at s0;have Dg:=c112 (n+1) x.name hn;simp only[W6,cI];by_cases k4:x.kind=4
 ·rw[k4];rw[k4]at s0;cases h9:gF x.name
  ·simp only[z0,seval,s0,q1,dJ,aM,aN,aQ,aP,bN,bD,aW,h9,aF 112,aJ,Dg];exact⟨_,rfl,fun _=>by simp[aA],Bg,by simp[aA,q1],by grind,by grind⟩
  ·simp only[z0,seval,s0,q1,dJ,aM,aN,aQ,aP,bN,bD,aW,h9,aF 112,aJ,Dg];exact⟨_,rfl,nofun,Bg,by simp[aA,q1],by grind,by grind⟩
 by_cases k6:x.kind=6
 ·rw[k6];rw[k6]at s0;cases h9:gF x.name
  ·simp only[z0,seval,s0,q1,dJ,aM,aN,aQ,aP,bN,bD,aW,h9,aF 112,aJ,Dg];exact⟨_,rfl,fun _=>by simp[aA],Bg,by simp[aA,q1],by grind,by grind⟩
  ·simp only[z0,seval,s0,q1,dJ,aM,aN,aQ,aP,bN,bD,aW,h9,aF 112,aJ,Dg];exact⟨_,rfl,nofun,Bg,by simp[aA,q1],by grind,by grind⟩
 simp only[z0,seval,s0,q1,dJ,aM,aN,aQ,aP,bN,bD,aW,aE k4,aE k6];exact⟨_,rfl,nofun,Bg,by simp[aA,q1],by grind,by grind⟩
def arI(p:Int):Int:=match arD p with | .tup [.int _ a,_]=>a|_=>0
theorem arD_form(p:Int):∃e:Int,arD p=e2 (arI p) e:=by
 rcases zA p with⟨a,hf,hr,ha⟩|⟨hf,hr⟩
 ·exact⟨0,by rw[arI,hf];rfl⟩
 ·exact⟨2,by rw[arI,hf];rfl⟩
def iU(x:Nd):Int:=
 bif decide (x.kind<1)||(decide (6<x.kind)||surB x) then 2 else
 bif decide (x.site<0)||decide (1000000000<x.site) then 7 else
 bif decide (sG x.text<0) then 6 else
 bif decide (400<sG x.text)||(decide (x.kind=3)&&decide (400≤x.kids)) then 3 else
 bif (decide (x.kind=3)&&decide (x.kids<0))||((decide (x.kind=5) && !decide (x.kids=arI x.prim))||(decide (x.kind=6)&&(!decide (x.kids=1) && !decide (x.kids=2)))) then 23 else
 bif (decide (x.kind=4)||decide (x.kind=6)) && !gF x.name then 24 else 0
theorem c96(n:Nat)(x:Nd)(hn:x.name.length<9223372036854775807)(ht:x.text.length<4294967296):cl (n+6) 96 [.agg (bK x)]=some (.int .i64 (iU x),true):=by
 rw[uG 96 A96 B96,B96];have Db:∀(e:Int) (t:Tm) (st:St) (c:Nat),tget t 2 = .int .i64 e→iU x=e→pout (zbody (dfn (n+6) MM) A96 (.ok .ret ⟨t,st,c,[],none⟩))=some (.int .i64 (iU x),true):=fun e t st c h he=>by
  simp only[z0,seval,h,he,A96];rfl
 have hb:∀(y:AS) (K:AS→R),zbind (.ok .normal y) K=K y:=fun _ _=>rfl
 have Qs:∀(y:AS) (K:AS→R),zbind (.ok .ret y) K = .ok .ret y:=fun _ _=>rfl
 have Tt:∀(a b:AC) (cx:Cx) (cl:CL) (k:Nat) (y:AS),zC (.seq a b) cx cl k y=zbind (zC a cx cl k y) (zC b cx cl k):=fun _ _ _ _ _ _=>rfl
 simp only[z0,seval];generalize hT:tput _ 2 _=T;generalize hS:sadd st0 0 _=S;have h1:StW x S T none none:=⟨by rw[←hS];simp[aA],by rw[←hT];simp[aA],nofun,nofun⟩
 clear hT hS;obtain⟨t1,e1,r1,k1⟩:=W1_ok (n+1) x (c:=1) h1;cases b1:(decide (x.kind<1)||(decide (6<x.kind)||surB x))<;>rw[b1]at e1 r1
 case true=>rw[e1];simp only[bG,Qs];exact Db 2 _ _ _ (r1 rfl) (by rw[iU,b1];rfl)
 rw[e1];simp only[cO,hb,Tt];obtain⟨t2,Xs,r2,k2⟩:=W2_ok (n+1) x (c:=1) k1;cases b2:(decide (x.site<0)||decide (1000000000<x.site))<;>rw[b2]at Xs r2
 case true=>rw[Xs];simp only[bG,Qs];exact Db 7 _ _ _ (r2 rfl) (by rw[iU,b1,b2];rfl)
 rw[Xs];simp only[cO,hb];obtain⟨s0,q1,_,_⟩:=k2;have Bg:=s0;unfold bK at s0;simp only[z0,seval,s0,q1,aF 146,aJ,c146 n x.text ht];generalize hT:tput _ 3 _=T3;have h3:StW x S T3 (some (sG x.text)) none:=⟨Bg,by rw[←hT];simp[aA,q1],fun v hv=>by cases hv;rw[←hT];simp[aA],nofun⟩
 clear hT;obtain⟨t3,e3,r3,k3⟩:=W3_ok (n+1) x (c:=1) h3;cases b3:decide (sG x.text<0)<;>rw[b3]at e3 r3
 case true=>rw[e3];simp only[bG,Qs];exact Db 6 _ _ _ (r3 rfl) (by rw[iU,b1,b2,b3];rfl)
 rw[e3];simp only[cO,hb,Tt];obtain⟨t4,e4,r4,k4⟩:=W4_ok (n+1) x (c:=1) k3;cases b4:(decide (400<sG x.text)||(decide (x.kind=3)&&decide (400≤x.kids)))<;>rw[b4]at e4 r4
 case true=>rw[e4];simp only[bG,Qs];exact Db 3 _ _ _ (r4 rfl) (by rw[iU,b1,b2,b3,b4];rfl)
 rw[e4];simp only[cO,hb];obtain⟨_,q1,_,_⟩:=k4;obtain⟨er,Ld⟩:=arD_form x.prim;simp only[z0,seval,s0,q1,aF 147,aJ,c147,Ld,dV];generalize hT:tput _ 5 _=T5;have h5:StW x S T5 none (some (arI x.prim)):=⟨Bg,by rw[←hT];simp[aA,q1],nofun,fun v hv=>by cases hv;rw[←hT];simp[aA]⟩
 clear hT;obtain⟨t5,e5,r5,k5⟩:=W5_ok (n+1) x (c:=1) h5;cases b5:((decide (x.kind=3)&&decide (x.kids<0))||((decide (x.kind=5) && !decide (x.kids=arI x.prim))||(decide (x.kind=6)&&(!decide (x.kids=1) && !decide (x.kids=2)))))<;>rw[b5]at e5 r5
 case true=>rw[e5];simp only[bG,Qs];exact Db 23 _ _ _ (r5 rfl) (by rw[iU,b1,b2,b3,b4,b5];rfl)
 rw[e5];simp only[cO,hb,Tt];obtain⟨t6,e6,r6,k6⟩:=W6_ok (n+1) x hn (c:=1) ⟨k5.1,k5.2.1,nofun,nofun⟩;cases b6:((decide (x.kind=4)||decide (x.kind=6)) && !gF x.name)<;>rw[b6]at e6 r6
 case true=>rw[e6];simp only[bG,Qs];exact Db 24 _ _ _ (r6 rfl) (by rw[iU,b1,b2,b3,b4,b5,b6];rfl)
 rw[e6];simp only[cO,hb];simp only[z0,seval,A96];rw[iU,b1,b2,b3,b4,b5,b6];rfl
end
end Zv
