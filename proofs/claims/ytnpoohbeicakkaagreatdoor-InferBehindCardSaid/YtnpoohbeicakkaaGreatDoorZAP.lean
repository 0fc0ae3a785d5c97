/- What functions come to: the bottom of a lattice. Conditions: none. -/
import Derived.Test.YtnpoohbeicakkaaGreatDoorZAO
import Derived.Lib.TrimUEq
import Derived.Lib.RuneCount
import Derived.Lib.MapLaws
set_option linter.unusedVariables false
set_option linter.unusedSimpArgs false
set_option maxRecDepth 100000
namespace Zv
open Go
noncomputable section
def popT:List UInt8:=[0,1,1,2,1,2,2,3,1,2,2,3,2,3,3,4,1,2,2,3,2,3,3,4,2,3,3,4,3,4,4,5,1,2,2,3,2,3,3,4,2,3,3,4,3,4,4,5,2,3,3,4,3,4,4,5,3,4,4,5,4,5,5,6,1,2,2,3,2,3,3,4,2,3,3,4,3,4,4,5,2,3,3,4,3,4,4,5,3,4,4,5,4,5,5,6,2,3,3,4,3,4,4,5,3,4,4,5,4,5,5,6,3,4,4,5,4,5,5,6,4,5,5,6,5,6,6,7,1,2,2,3,2,3,3,4,2,3,3,4,3,4,4,5,2,3,3,4,3,4,4,5,3,4,4,5,4,5,5,6,2,3,3,4,3,4,4,5,3,4,4,5,4,5,5,6,3,4,4,5,4,5,5,6,4,5,5,6,5,6,6,7,2,3,3,4,3,4,4,5,3,4,4,5,4,5,5,6,3,4,4,5,4,5,5,6,4,5,5,6,5,6,6,7,3,4,4,5,4,5,5,6,4,5,5,6,5,6,6,7,4,5,5,6,5,6,6,7,5,6,6,7,6,7,7,8]
def pop(u:Nat):Nat:=(popT.getD u 0).toNat
theorem c124(n:Nat){u:Nat}(hu:u<256):cl n 124 [.int .u8 (u:Int)]=some (.int .i64 (pop u:Nat),true):=by
 rw[cN (A:=A124) rfl n _ rfl,show A124.body=B124 from rfl]
 simp only[B124,Ab.abq];have hl:u<popT.length:=hu;have hi:kG popT.length (.int .u8 (u:Int))=some u:=fS hl;have hg:popT[u]?=some popT[u]:=aJ hl;have hp:pop u=popT[u].toNat:=by rw[pop,jV hl]
 have hb:=popT[u].toNat_lt
 rw[show(D.str [0,1,1,2,1,2,2,3,1,2,2,3,2,3,3,4,1,2,2,3,2,3,3,4,2,3,3,4,3,4,4,5,1,2,2,3,2,3,3,4,2,3,3,4,3,4,4,5,2,3,3,4,3,4,4,5,3,4,4,5,4,5,5,6,1,2,2,3,2,3,3,4,2,3,3,4,3,4,4,5,2,3,3,4,3,4,4,5,3,4,4,5,4,5,5,6,2,3,3,4,3,4,4,5,3,4,4,5,4,5,5,6,3,4,4,5,4,5,5,6,4,5,5,6,5,6,6,7,1,2,2,3,2,3,3,4,2,3,3,4,3,4,4,5,2,3,3,4,3,4,4,5,3,4,4,5,4,5,5,6,2,3,3,4,3,4,4,5,3,4,4,5,4,5,5,6,3,4,4,5,4,5,5,6,4,5,5,6,5,6,6,7,2,3,3,4,3,4,4,5,3,4,4,5,4,5,5,6,3,4,4,5,4,5,5,6,4,5,5,6,5,6,6,7,3,4,4,5,4,5,5,6,4,5,5,6,5,6,6,7,4,5,5,6,5,6,6,7,5,6,6,7,6,7,7,8])=D.str popT from rfl]
 simp only[z0,seval,hi,hg,gU (show -9223372036854775808≤(popT[u].toNat:Int) by omega) (by omega),A124]
 rw[hp];rfl
def lowP(us:List Nat)(i:Nat):Option Int:=if us.getD i 0=2 ^ us.length-1 then some (i:Int) else none
def iG(us:List Nat):Int:=scan (lowP us) 0 us.length 0
theorem c100(n:Nat){ss:List (List UInt8)}{us:List Nat}{d e:D}(hd:Sl 1 hY ss d)(he:Sl 1 u8C us e)(hu:iL us)(h1:1≤us.length)(h8:us.length≤8):cl n 100 [.agg [d,e]]=some (.int .i64 (iG us),true):=by
 rw[cN (A:=A100) rfl n _ rfl,show A100.body=B100 from rfl]
 simp only[B100,Ab.abq];obtain⟨v,hv,hw⟩:=all_i64 us.length h1 h8;simp only[z0,seval,hd.nag,he.nag];generalize hz:zloop KK _ _=rl;refine zfor rl hz us.length (fI (by omega)) (by omega) (fun i t s c=>sget s 0=some (.fix 26 [d,e])∧tget t 1 = .ptr 0 0∧∀j,j<i→lowP us j=none) (by simp[aE]) (by simp[aE]) ?_
 rintro i t s c hi ⟨s0,q1,hn⟩ q3;by_cases hlt:i<us.length
 ·have hx:=hu _ (cA hlt);have hwi:cT .i64 (us[i]:Int)=us[i]:=gU (by omega) (by omega)
  by_cases hq:us[i]=2 ^ us.length-1
  ·have hp:lowP us i=some (i:Int):=by rw[lowP,jV hlt,aH hq]
   simp only[z2,seval,s0,q1,q3,he.len,eD hlt,dU,cP,iH,nY,AOp.kd,fU,iM,iA,gY,fV,eS,nZ,iX,oA,dE,eO,he.ia1 hlt,he.at1 hlt,u8C,aT,hwi,hv,hw,show decide ((us[i]:Int)=((2 ^ us.length-1:Nat):Int))=true from bH (by omega),A100]
   rw[iG,fX hlt hp hn];rfl
  ·have hp:lowP us i=none:=by rw[lowP,jV hlt,aD hq]
   simp only[z2,seval,s0,q1,q3,he.len,eD hlt,dU,cP,iH,nY,AOp.kd,fU,iM,iA,gY,fV,eS,nZ,iX,oA,dE,eO,he.ia1 hlt,he.at1 hlt,u8C,aT,hwi,hv,hw,show decide ((us[i]:Int)=((2 ^ us.length-1:Nat):Int))=false from aK (by omega)]
   refine⟨hlt,trivial,trivial,trivial,trivial,trivial,eE hn hp⟩
 ·simp only[z2,seval,s0,q1,q3,he.len,jY (show us.length≤i by omega),A100]
  rw[iG,gN fun j hj=>hn j (by omega)];rfl
def endP(f:Nat→Nat)(n i:Nat):Option Int:=if n≤i+1∨n≤pop (f i) then some (i:Int) else none
def endI(f:Nat→Nat)(n:Nat):Int:=scan (endP f n) 0 n 0
theorem c82(n:Nat){f:Nat→Nat}(hf:∀i,f i<256){k:Nat}(h1:1≤k)(h8:k≤8):cl (n+1) 82 [.agg (row8 f),.int .i64 (k:Nat)]=some (.int .i64 (endI f k),true):=by
 rw[cN (A:=A82) rfl (n+1) _ rfl,show A82.body=B82 from rfl]
 simp only[B82,Ab.abq];have hsub:cT .i64 ((k:Int)-1)=((k-1:Nat):Int):=by rw[gU (by omega) (by omega)];omega
 have hnag:eP (D.agg (row8 f))=true:=rfl;simp only[z1,seval];generalize hz:zloop KK _ _=rl;refine zwhile rl hz k (fI (by omega)) (fun i z=>∃t s c,z=⟨t,s,c,[],none⟩∧sget s 0=some (.fix 141 (row8 f))∧tget t 1 = .int .i64 (k:Nat)∧tget t 2 = .ptr 0 0∧tget t 5 = .int .i64 (i:Nat)∧i<k∧∀j,j<i→endP f k j=none)
  ⟨_,_,_,rfl,by simp[aE],by simp[aE],by simp[aE],by simp[aE],h1,nofun⟩ ?_
 rintro i z hi ⟨t,s,c,rfl,s0,q1,q2,q5,hik,hn⟩;have hrow:=qV f (k:=i) (by omega)
 have hidx:kG 8 (.int .i64 (i:Int))=some i:=fS (by omega)
 by_cases hlast:k≤i+1
 ·have hp:endP f k i=some (i:Int):=by rw[endP,aH (.inl hlast)]
  simp only[z1,seval,q1,q2,q5,hsub,show decide ((i:Int)<((k-1:Nat):Int))=false from aK (by omega),A82]
  rw[endI,fX hik hp hn];rfl
 ·have h124:=c124 n (hf i);by_cases hq:k≤pop (f i)
  ·have hp:endP f k i=some (i:Int):=by rw[endP,aH (.inr hq)]
   simp only[z1,seval,q1,q2,q5,s0,hsub,hidx,hrow,dI,bP,show decide ((i:Int)<((k-1:Nat):Int))=true from bH (by omega),aF (f:=124) rfl,aQ,h124,show decide (((pop (f i):Nat):Int)<(k:Int))=false from aK (by omega),A82]
   rw[endI,fX hik hp hn];rfl
  ·have hp:endP f k i=none:=by rw[endP,aD (fun h=>h.elim hlast hq)]
   simp only[z1,seval,q1,q2,q5,s0,hsub,hidx,hrow,dI,bP,show decide ((i:Int)<((k-1:Nat):Int))=true from bH (by omega),aF (f:=124) rfl,aQ,h124,show decide (((pop (f i):Nat):Int)<(k:Int))=true from bH (by omega),kS (show i<9223372036854775807 by omega)]
   exact⟨by omega,_,_,_,rfl,s0,by simp[aE,q1],by simp[aE,q2],by simp[aE],by omega,eE hn hp⟩
theorem c80(n:Nat){ss:List (List UInt8)}{us:List Nat}{d e:D}(hd:Sl 1 hY ss d)(he:Sl 1 u8C us e)(hu:iL us)(hs:pX ss){x er:Int}(hC:CHK ss us=e2 x er):cl (n+6) 80 [.iptr [d,e] 0,.nils]=some (.int .i64 er,true):=by
 rw[cN (A:=A80) rfl (n+6) _ rfl,show A80.body=B80 from rfl]
 simp only[B80,Ab.abq];have htk:dH [d,e] 0 (some 2)=some (.agg [d,e]):=rfl;have h59:=c59 n hd he hu hs;rw[hC]at h59;by_cases h0:er=0
 ·subst h0;simp only[z2,seval,htk,aF (f:=59) rfl,aQ,hd.fz,he.fz,h59,fJ,eL,aY,bD,eq_self,show lenD false .nils=some 0 from rfl]
  generalize hz:zloop KK _ _=rl;refine zrange rl hz 0 (fI (by decide)) (by decide) (fun i t s c=>True) (by decide) (by simp[aE]) (by simp[aE]) trivial (fun i t s c hi=>absurd hi (by omega)) ?_
  rintro t s c _ hti htn;simp only[z2,seval,hti,htn,A80];rfl
 ·simp only[z2,seval,htk,aF (f:=59) rfl,aQ,hd.fz,he.fz,h59,fJ,eL,aL h0,aZ,aR,A80];rfl
theorem c43(n:Nat){ss:List (List UInt8)}{us:List Nat}{d e:D}(hd:Sl 1 hY ss d)(he:Sl 1 u8C us e)(hu:iL us)(hs:pX ss)(hC:CHK ss us=e2 0 0)(hul:us.length=ss.length)(h1:1≤ss.length)(h8:ss.length≤8):cl (n+7) 43 [.agg [d,e]]=some (e2 (endI (uM us) ss.length) 0,true):=by
 rw[cN (A:=A43) rfl (n+7) _ rfl,show A43.body=B43 from rfl]
 simp only[B43,Ab.abq];have h80:=c80 n hd he hu hs hC;have h81:=c81 (n+6) hd he hu h8 (by omega)
 have h82:=c82 (n+5) (mD hu) h1 h8;have htk:dH (ord17 ss.length (uM us) (dnM (uM us) ss.length us.length)) 1 (some 8)=some (.agg (row8 (uM us))):=rfl;have h0:(ord17 ss.length (uM us) (dnM (uM us) ss.length us.length))[0]?=some (.int .i64 (ss.length:Nat)):=rfl
 simp only[z2,seval,hd.nag,he.nag,aF (f:=80) rfl,aF (f:=81) rfl,aF (f:=82) rfl,aQ,hd.fz,he.fz,h80,h81,h82,htk,h0,eL,aY,bD,eq_self,tR,ord17_st _ _ _ [_,_,_,_,_,_,_,_,_,_,_,_,_,_,_,_,_] rfl,xA,bO,aN,A43];rfl
theorem c68(n:Nat){us:List Nat}{d e:D}(hdn:eP d=false)(hdf:∀k s,frz false (k+1) s d=some d)(he:Sl 1 u8C us e)(hu:iL us){a:Nat}(ha:a<us.length)(b:Nat)(hb:b<9223372036854775807){r:Bool}
  (h56:cl n 56 [.agg [d,e],.int .i64 (a:Nat),.int .i64 (b:Nat)]=some (.bool r,true)):cl (n+1) 68 [.agg [d,e],.int .i64 (a:Nat),.int .i64 (b:Nat)]=some (.bool r,true):=by
 rw[cN (A:=A68) rfl (n+1) _ rfl,show A68.body=B68 from rfl]
 simp only[B68,Ab.abq];have htk:dH [d,e] 0 (some 2)=some (.agg [d,e]):=rfl;simp only[z2,seval,hdn,he.nag,htk,aF (f:=56) rfl,aQ,hdf,he.fz,h56,A68];rfl
theorem c74(n:Nat){ss:List (List UInt8)}{d e:D}(hd:Sl 1 hY ss d)(hen:eP e=false)(b a:Int):cl n 74 [.agg [d,e,.int .i64 b],.int .i64 a]=some (.bool (decide (0≤a)&&decide (a<(ss.length:Int))),true):=by
 rw[cN (A:=A74) rfl n _ rfl,show A74.body=B74 from rfl]
 simp only[B74,Ab.abq];cases h1:decide (0≤a)
 ·simp only[z0,seval,hd.nag,hen,h1,A74];rfl
 ·simp only[z0,seval,hd.nag,hen,h1,hd.len,A74];rfl
theorem c72(n:Nat){ss:List (List UInt8)}{us:List Nat}{d e:D}(hd:Sl 1 hY ss d)(he:Sl 1 u8C us e)(hu:iL us)(hs:pX ss)(hC:CHK ss us=e2 0 0)(hul:us.length=ss.length)(h1:1≤ss.length)(h8:ss.length≤8):∃f,cl (n+8) 72 [.agg [d,e]]=some (.tup [.agg [d,e,.int .i64 (endI (uM us) ss.length)],.int .i64 0],f):=by
 rw[cN (A:=A72) rfl (n+8) _ rfl,show A72.body=B72 from rfl]
 simp only[B72,Ab.abq];have htk:dH [d,e] 0 (some 2)=some (.agg [d,e]):=rfl;have h59:=c59 (n+2) hd he hu hs;rw[hC]at h59;have h43:=c43 n hd he hu hs hC hul h1 h8;simp only[z0,seval,hd.nag,he.nag,htk,aF (f:=59) rfl,aF (f:=43) rfl,aQ,hd.fz,he.fz,h59,h43,fJ,eL,aY,bD,eq_self,A72]
 rcases hd.2 with⟨rfl,_⟩|⟨ex,rfl⟩<;>rcases he.2 with⟨rfl,_⟩|⟨ex',rfl⟩<;>exact⟨_,rfl⟩
theorem c116(n:Nat){us:List Nat}{d e:D}(hdn:eP d=false)(he:Sl 1 u8C us e)(hu:iL us)(b0:Int){a:Nat}(ha:a<us.length)(b:Nat):cl n 116 [.agg [d,e,.int .i64 b0],.int .i64 (a:Nat),.int .i64 (b:Nat)]=some (.bool ((uM us a).testBit b),true):=by
 rw[cN (A:=A116) rfl n _ rfl,show A116.body=B116 from rfl]
 simp only[B116,Ab.abq];have hx:us[a]=uM us a:=(jV ha 0).symm;have hlt:uM us a >>> b<256:=Nat.lt_of_le_of_lt (Nat.shiftRight_le _ _) (mD hu a);have hand:kA .and (.int .u8 ((uM us a >>> b:Nat):Int)) (.int .u8 1)=some (.int .u8 ((uM us a >>> b&&&1:Nat):Int)):=iJ (y:=1) hlt (by decide)
 have hbit:decide (((uM us a >>> b&&&1:Nat):Int)=1)=(uM us a).testBit b:=by
  rw[Nat.testBit_eq_decide_div_mod_eq,Nat.and_one_is_mod,Nat.shiftRight_eq_div_pow,dA,cI,cI];omega
 simp only[z0,seval,hdn,he.nag,he.ia1 ha,he.at1 ha,u8C,aT,hx,gJ b (mD hu a),hand,hbit,A116];rfl
def K1:Nat:=1180591620717411303423
def K2:Nat:=1180591620717411303422
def K3:Nat:=1180591620717411303421
def K4:Nat:=1180591620717411303420
def K5:Nat:=1180591620717411303419
theorem zun:(∀f x,zloop KK f x=zbind (f x) (zloop K1 f))∧(∀f x,zloop K1 f x=zbind (f x) (zloop K2 f))∧(∀f x,zloop K2 f x=zbind (f x) (zloop K3 f))∧(∀f x,zloop K3 f x=zbind (f x) (zloop K4 f))∧(∀f x,zloop K4 f x=zbind (f x) (zloop K5 f)):=
 ⟨fun _ _=>rfl,fun _ _=>rfl,fun _ _=>rfl,fun _ _=>rfl,fun _ _=>rfl⟩
theorem zop:type_of% @iH∧type_of% @nY∧type_of% @fU∧type_of% @iM∧type_of% @iA∧type_of% @mS∧type_of% @gY∧type_of% @fV∧type_of% @eS∧type_of% @lP∧type_of% @rY∧type_of% @nZ∧type_of% @rV∧type_of% @rX∧type_of% @iX∧type_of% @fW:=
 ⟨@iH,@nY,@fU,@iM,@iA,@mS,@gY,@fV,@eS,@lP,@rY,@nZ,@rV,@rX,@iX,@fW⟩
theorem tks{α:Type}:(∀l:List α,l.take 0=[])∧(∀(n:Nat) (a:α) l,(a::l).take (n+1)=a::l.take n)∧(∀p:α→Bool,[].all p=true)∧(∀(p:α→Bool) a l,(a::l).all p=(p a&&l.all p)):=
 ⟨fun _=>rfl,fun _ _ _=>rfl,fun _=>rfl,fun _ _ _=>rfl⟩
theorem nb:((True:Prop)=True)∧(∀p:Prop,[Decidable p]→decide (¬p) = !decide p)∧(∀a b:Int,(a≠b)=¬(a=b))∧(decide True=true)∧(decide False=false)∧((¬True)=False)∧((¬False)=True)∧((!true)=false)∧((!false)=true):=
 ⟨rfl,fun p=>by simp,fun _ _=>rfl,rfl,rfl,by simp,by simp,rfl,rfl⟩
structure Ty where
 kind:Int
 rank:Int
 a0:Int
 a1:Int
 data:Int
def tyC(t:Ty):List D:=[.int .i64 t.kind,.int .i64 t.rank,.int .i64 t.a0,.int .i64 t.a1,.int .i64 t.data]
def mJ(n:Nat)(a:Int):Bool:=decide (0≤a)&&decide (a<(n:Int))
def uY(us:List Nat)(a b:Int):Bool:=(uM us a.toNat).testBit b.toNat
def tyE(us:List Nat)(low:Int)(t:Ty):Int:=
 if(t.kind≠1∧t.kind≠2)∨t.rank<0∨2<t.rank then 7 else
 if mJ us.length t.a0=false∨mJ us.length t.a1=false∨mJ us.length t.data=false then 7 else
 if(t.rank=0∧t.a0≠low)∨(t.rank≤1∧t.a1≠low) then 6 else
 if(1≤t.rank∧uY us t.a0 t.data=false)∨(t.rank=2∧uY us t.a1 t.data=false) then 25 else 0
set_option maxHeartbeats 2000000 in
theorem c55(n:Nat){ss:List (List UInt8)}{us:List Nat}{d e:D}(hd:Sl 1 hY ss d)(he:Sl 1 u8C us e)(hu:iL us)(hul:us.length=ss.length)(h1:1≤us.length)(h8:us.length≤8)(t:Ty):cl (n+2) 55 [.agg [d,e],.agg (tyC t)]=some (.int .i64 (tyE us (iG us) t),true):=by
 rw[cN (A:=A55) rfl (n+2) _ rfl,show A55.body=B55 from rfl]
 simp only[B55,Ab.abq];have htk:dH [d,e] 0 (some 2)=some (.agg [d,e]):=rfl;have h47:∀a:Int,cl (n+1) 47 [.agg [d,e],.int .i64 a]=some (.bool (mJ us.length a),true):=fun a=>by rw[c47 (n+1) hd he a,mJ,hul]
 have h100:=c100 (n+1) hd he hu h1 h8;by_cases hk:t.kind≠1∧t.kind≠2
 ·have hE:tyE us (iG us) t=7:=aH (.inl hk);rw[hE];unfold tyC;simp only[z2,seval,hd.nag,he.nag,aK hk.1,aK hk.2,Int.reduceLT,Int.reduceLE,Int.reduceEq,eL,aY,aZ,aR,bD,cF,bM,bI,A55];rfl
 have hk':t.kind=1∨t.kind=2:=by omega
 by_cases hr0:t.rank<0
 ·have hE:tyE us (iG us) t=7:=aH (.inr (.inl hr0));rw[hE];unfold tyC;rcases hk' with k|k<;>simp only[z2,seval,hd.nag,he.nag,k,bH hr0,Int.reduceLT,Int.reduceLE,Int.reduceEq,eL,aY,aZ,aR,bD,cF,bM,bI,A55]<;>rfl
 by_cases hr2:2<t.rank
 ·have hE:tyE us (iG us) t=7:=aH (.inr (.inr hr2));rw[hE];unfold tyC;rcases hk' with k|k<;>simp only[z2,seval,hd.nag,he.nag,k,aK hr0,bH hr2,Int.reduceLT,Int.reduceLE,Int.reduceEq,eL,aY,aZ,aR,bD,cF,bM,bI,A55]<;>rfl
 have hE1:tyE us (iG us) t=if mJ us.length t.a0=false∨mJ us.length t.a1=false∨mJ us.length t.data=false then 7 else
   if(t.rank=0∧t.a0≠iG us)∨(t.rank≤1∧t.a1≠iG us) then 6 else
   if(1≤t.rank∧uY us t.a0 t.data=false)∨(t.rank=2∧uY us t.a1 t.data=false) then 25 else 0:=aD (by omega)
 rw[hE1];have i0:kG 2 (.int .i64 0)=some 0:=rfl;have i1:kG 2 (.int .i64 1)=some 1:=rfl;cases l0:mJ us.length t.a0
 ·rw[aH (.inl rfl)];unfold tyC;rcases hk' with k|k<;>simp only[z2,seval,hd.nag,he.nag,k,aK hr0,aK hr2,htk,i0,i1,aF (f:=47) rfl,aQ,hd.fz,he.fz,h47,l0,Int.reduceLT,Int.reduceLE,Int.reduceEq,eL,aY,aZ,aR,bD,cF,bM,bI,A55]<;>rfl
 cases l1:mJ us.length t.a1
 ·rw[aH (.inr (.inl rfl))];unfold tyC;rcases hk' with k|k<;>simp only[z2,seval,hd.nag,he.nag,k,aK hr0,aK hr2,htk,i0,i1,aF (f:=47) rfl,aQ,hd.fz,he.fz,h47,l0,l1,Int.reduceLT,Int.reduceLE,Int.reduceEq,eL,aY,aZ,aR,bD,cF,bM,bI,A55]<;>rfl
 cases ld:mJ us.length t.data
 ·rw[aH (.inr (.inr rfl))];unfold tyC;rcases hk' with k|k<;>simp only[z2,seval,hd.nag,he.nag,k,aK hr0,aK hr2,htk,i0,i1,aF (f:=47) rfl,aQ,hd.fz,he.fz,h47,l0,l1,ld,Int.reduceLT,Int.reduceLE,Int.reduceEq,eL,aY,aZ,aR,bD,cF,bM,bI,A55]<;>rfl
 rw[aD (fun h=>by rcases h with h|h|h<;>cases h)]
 obtain⟨kd,rk,a0,a1,dt⟩:=t;dsimp only at *;have w:∀a:Int,mJ us.length a=true→∃x:Nat,a=x∧x<us.length:=fun a h=>by
  rw[mJ,bK,cI,cI]at h;exact⟨a.toNat,by omega,by omega⟩
 obtain⟨x0,rfl,g0⟩:=w _ l0;obtain⟨x1,rfl,g1⟩:=w _ l1;obtain⟨xd,rfl,gd⟩:=w _ ld;have h68:∀a b:Nat,a<us.length→b<us.length→cl (n+1) 68 [.agg [d,e],.int .i64 (a:Nat),.int .i64 (b:Nat)]=some (.bool (uY us (a:Nat) (b:Nat)),true):=fun a b ha hb=>
  c68 n hd.nag hd.fz he hu ha b (by omega) (c56 n hd.nag he hu ha b)
 have q0:=h68 x0 xd g0 gd;have q1:=h68 x1 xd g1 gd;clear w h68 hE1;generalize iG us=lw at *;generalize uY us (x0:Nat) (xd:Nat)=b0 at *;generalize uY us (x1:Nat) (xd:Nat)=b1 at *;generalize (x0:Int)=y0 at *;generalize (x1:Int)=y1 at *;generalize (xd:Int)=yd at *;unfold tyC;have hr:rk=0∨rk=1∨rk=2:=by omega
 by_cases e1:y1=lw
 ·rcases hr with rfl|rfl|rfl
  ·by_cases e0:y0=lw
   ·rw[aD (by simp[e0,e1]),aD (by simp)]
    rcases hk' with rfl|rfl<;>simp only[z2,seval,hd.nag,he.nag,zun,dU,cP,AOp.kd,zop,tks,bV,dO,show cT .i64 1=1 from rfl,show cT .i64 2=2 from rfl,htk,i0,i1,aF (f:=47) rfl,aF (f:=100) rfl,aF (f:=68) rfl,aQ,hd.fz,he.fz,h47,h100,l0,l1,ld,Int.reduceLT,Int.reduceLE,Int.reduceEq,Int.reduceAdd,eL,aY,aZ,aR,bD,cF,bM,bI,A55,bH e0,bH e1]<;>rfl
   ·rw[aH (.inl ⟨rfl,e0⟩)]
    rcases hk' with rfl|rfl<;>simp only[z2,seval,hd.nag,he.nag,zun,dU,cP,AOp.kd,zop,tks,bV,dO,show cT .i64 1=1 from rfl,show cT .i64 2=2 from rfl,htk,i0,i1,aF (f:=47) rfl,aF (f:=100) rfl,aF (f:=68) rfl,aQ,hd.fz,he.fz,h47,h100,l0,l1,ld,Int.reduceLT,Int.reduceLE,Int.reduceEq,Int.reduceAdd,eL,aY,aZ,aR,bD,cF,bM,bI,A55,aK e0]<;>rfl
  ·rw[aD (by simp[e1])]
   cases b0
   ·rw[aH (by simp)]
    rcases hk' with rfl|rfl<;>simp only[z2,seval,hd.nag,he.nag,zun,dU,cP,AOp.kd,zop,tks,bV,dO,show cT .i64 1=1 from rfl,show cT .i64 2=2 from rfl,htk,i0,i1,aF (f:=47) rfl,aF (f:=100) rfl,aF (f:=68) rfl,aQ,hd.fz,he.fz,h47,h100,l0,l1,ld,Int.reduceLT,Int.reduceLE,Int.reduceEq,Int.reduceAdd,eL,aY,aZ,aR,bD,cF,bM,bI,A55,bH e1,q0]<;>rfl
   ·rw[aD (by simp)]
    rcases hk' with rfl|rfl<;>simp only[z2,seval,hd.nag,he.nag,zun,dU,cP,AOp.kd,zop,tks,bV,dO,show cT .i64 1=1 from rfl,show cT .i64 2=2 from rfl,htk,i0,i1,aF (f:=47) rfl,aF (f:=100) rfl,aF (f:=68) rfl,aQ,hd.fz,he.fz,h47,h100,l0,l1,ld,Int.reduceLT,Int.reduceLE,Int.reduceEq,Int.reduceAdd,eL,aY,aZ,aR,bD,cF,bM,bI,A55,bH e1,q0]<;>rfl
  ·rw[aD (by simp)]
   cases b0
   ·rw[aH (by simp)]
    rcases hk' with rfl|rfl<;>simp only[z2,seval,hd.nag,he.nag,zun,dU,cP,AOp.kd,zop,tks,bV,dO,show cT .i64 1=1 from rfl,show cT .i64 2=2 from rfl,htk,i0,i1,aF (f:=47) rfl,aF (f:=100) rfl,aF (f:=68) rfl,aQ,hd.fz,he.fz,h47,h100,l0,l1,ld,Int.reduceLT,Int.reduceLE,Int.reduceEq,Int.reduceAdd,eL,aY,aZ,aR,bD,cF,bM,bI,A55,q0,q1]<;>rfl
   cases b1
   ·rw[aH (by simp)]
    rcases hk' with rfl|rfl<;>simp only[z2,seval,hd.nag,he.nag,zun,dU,cP,AOp.kd,zop,tks,bV,dO,show cT .i64 1=1 from rfl,show cT .i64 2=2 from rfl,htk,i0,i1,aF (f:=47) rfl,aF (f:=100) rfl,aF (f:=68) rfl,aQ,hd.fz,he.fz,h47,h100,l0,l1,ld,Int.reduceLT,Int.reduceLE,Int.reduceEq,Int.reduceAdd,eL,aY,aZ,aR,bD,cF,bM,bI,A55,q0,q1]<;>rfl
   ·rw[aD (by simp)]
    rcases hk' with rfl|rfl<;>simp only[z2,seval,hd.nag,he.nag,zun,dU,cP,AOp.kd,zop,tks,bV,dO,show cT .i64 1=1 from rfl,show cT .i64 2=2 from rfl,htk,i0,i1,aF (f:=47) rfl,aF (f:=100) rfl,aF (f:=68) rfl,aQ,hd.fz,he.fz,h47,h100,l0,l1,ld,Int.reduceLT,Int.reduceLE,Int.reduceEq,Int.reduceAdd,eL,aY,aZ,aR,bD,cF,bM,bI,A55,q0,q1]<;>rfl
 ·rcases hr with rfl|rfl|rfl
  ·rw[aH (.inr ⟨by decide,e1⟩)]
   by_cases e0:y0=lw
   ·rcases hk' with rfl|rfl<;>simp only[z2,seval,hd.nag,he.nag,zun,dU,cP,AOp.kd,zop,tks,bV,dO,show cT .i64 1=1 from rfl,show cT .i64 2=2 from rfl,htk,i0,i1,aF (f:=47) rfl,aF (f:=100) rfl,aF (f:=68) rfl,aQ,hd.fz,he.fz,h47,h100,l0,l1,ld,Int.reduceLT,Int.reduceLE,Int.reduceEq,Int.reduceAdd,eL,aY,aZ,aR,bD,cF,bM,bI,A55,bH e0,aK e1]<;>rfl
   ·rcases hk' with rfl|rfl<;>simp only[z2,seval,hd.nag,he.nag,zun,dU,cP,AOp.kd,zop,tks,bV,dO,show cT .i64 1=1 from rfl,show cT .i64 2=2 from rfl,htk,i0,i1,aF (f:=47) rfl,aF (f:=100) rfl,aF (f:=68) rfl,aQ,hd.fz,he.fz,h47,h100,l0,l1,ld,Int.reduceLT,Int.reduceLE,Int.reduceEq,Int.reduceAdd,eL,aY,aZ,aR,bD,cF,bM,bI,A55,aK e0]<;>rfl
  ·rw[aH (.inr ⟨by decide,e1⟩)]
   rcases hk' with rfl|rfl<;>simp only[z2,seval,hd.nag,he.nag,zun,dU,cP,AOp.kd,zop,tks,bV,dO,show cT .i64 1=1 from rfl,show cT .i64 2=2 from rfl,htk,i0,i1,aF (f:=47) rfl,aF (f:=100) rfl,aF (f:=68) rfl,aQ,hd.fz,he.fz,h47,h100,l0,l1,ld,Int.reduceLT,Int.reduceLE,Int.reduceEq,Int.reduceAdd,eL,aY,aZ,aR,bD,cF,bM,bI,A55,aK e1]<;>rfl
  ·rw[aD (by simp)]
   cases b0
   ·rw[aH (by simp)]
    rcases hk' with rfl|rfl<;>simp only[z2,seval,hd.nag,he.nag,zun,dU,cP,AOp.kd,zop,tks,bV,dO,show cT .i64 1=1 from rfl,show cT .i64 2=2 from rfl,htk,i0,i1,aF (f:=47) rfl,aF (f:=100) rfl,aF (f:=68) rfl,aQ,hd.fz,he.fz,h47,h100,l0,l1,ld,Int.reduceLT,Int.reduceLE,Int.reduceEq,Int.reduceAdd,eL,aY,aZ,aR,bD,cF,bM,bI,A55,q0,q1]<;>rfl
   cases b1
   ·rw[aH (by simp)]
    rcases hk' with rfl|rfl<;>simp only[z2,seval,hd.nag,he.nag,zun,dU,cP,AOp.kd,zop,tks,bV,dO,show cT .i64 1=1 from rfl,show cT .i64 2=2 from rfl,htk,i0,i1,aF (f:=47) rfl,aF (f:=100) rfl,aF (f:=68) rfl,aQ,hd.fz,he.fz,h47,h100,l0,l1,ld,Int.reduceLT,Int.reduceLE,Int.reduceEq,Int.reduceAdd,eL,aY,aZ,aR,bD,cF,bM,bI,A55,q0,q1]<;>rfl
   ·rw[aD (by simp)]
    rcases hk' with rfl|rfl<;>simp only[z2,seval,hd.nag,he.nag,zun,dU,cP,AOp.kd,zop,tks,bV,dO,show cT .i64 1=1 from rfl,show cT .i64 2=2 from rfl,htk,i0,i1,aF (f:=47) rfl,aF (f:=100) rfl,aF (f:=68) rfl,aQ,hd.fz,he.fz,h47,h100,l0,l1,ld,Int.reduceLT,Int.reduceLE,Int.reduceEq,Int.reduceAdd,eL,aY,aZ,aR,bD,cF,bM,bI,A55,q0,q1]<;>rfl
theorem cp2:(min 2 0=0)∧(min 2 1=1)∧(min 2 2=2)∧(∀a b:D,List.take 0 [a,b]=[])∧(∀a b:D,List.take 1 [a,b]=[a])∧(∀a b:D,List.take 2 [a,b]=[a,b])∧(∀a b:D,eU [a,b] 0 []=[a,b])∧(∀a b c:D,eU [a,b] 0 [c]=[c,b])∧(∀a b c d:D,eU [a,b] 0 [c,d]=[c,d])∧(∀a:Int,[D.int .i64 a].any eP=false)∧(∀a b:Int,[D.int .i64 a,.int .i64 b].any eP=false)∧(([]:List D).any eP=false):=
 ⟨rfl,rfl,rfl,fun _ _=>rfl,fun _ _=>rfl,fun _ _=>rfl,fun _ _=>rfl,fun _ _ _=>rfl,fun _ _ _ _=>rfl,fun _=>rfl,fun _ _=>rfl,rfl⟩
theorem tk2:(∀a b:Int,dH [.int .i64 a,.int .i64 b] 0 (some 2)=some (.agg [.int .i64 a,.int .i64 b]))∧(∀k r a b c:Int,dH [.int .i64 k,.int .i64 r,.int .i64 a,.int .i64 b,.int .i64 c] 2 (some 2)=some (.agg [.int .i64 a,.int .i64 b])):=
 ⟨fun _ _=>rfl,fun _ _ _ _ _=>rfl⟩
theorem f115(n j:Nat){S:St}{c:Nat}{d e:D}(hdn:eP d=false)(hen:eP e=false)(hdf:∀k s,frz false (k+1) s d=some d)(hef:∀k s,frz false (k+1) s e=some e){lw y y1 y2 y3 y4 yd:Int}(s0:sget S 0=some (.fix 119 [d,e,.int .i64 lw]))(s1:sget S 1=some (.fix 37 [.int .i64 y1,.int .i64 y2,.int .i64 y3,.int .i64 y4,.int .i64 yd])){b:Bool}
  (h:cl n 116 [.agg [d,e,.int .i64 lw],.int .i64 y,.int .i64 yd]=some (.bool b,true)):fn (n+1) (j+2) (.fn 115) [.int .i64 y,.ptr 0 0,.ptr 1 0] S c = .ok (.ret (.bool !b)) S c:=by
 rw[iO (f:=115) (A:=A115) rfl rfl rfl rfl (n+1) (j+1) _ _ _ rfl,show A115.body=B115 from rfl]
 simp only[B115,Ab.abq];have htk:dH [d,e,.int .i64 lw] 0 (some 3)=some (.agg [d,e,.int .i64 lw]):=rfl;simp only[z2,seval,s0,s1,hdn,hen,htk,aF (f:=116) rfl,aQ,hdf,hef,h,A115]
theorem vL(cx:Cx)(k:CL)(dst:Option Nat)(a:Arg)(l:List Arg)(x:AS):zOp cx k ⟨dst,.callv a l,none⟩ x=kX cx k dst x (a.ev cx.G x.t) (evs l cx.G x.t):=rfl
theorem cf_fn(cx:Cx)(k:CL)(dst:Option Nat)(x:AS)(f:Nat)(a:D)(cs:List D):kX cx k dst x (.fn (.func f) [] cs) [a]=back dst x (k (.fn f) (a::cs) x.s x.c):=rfl
theorem f114(n j:Nat){S:St}{c:Nat}{d e:D}(hdn:eP d=false)(hen:eP e=false)(hdf:∀k s,frz false (k+1) s d=some d)(hef:∀k s,frz false (k+1) s e=some e){lw y1 k y3 y4 yd:Int}(s0:sget S 0=some (.fix 119 [d,e,.int .i64 lw]))(s1:sget S 1=some (.fix 37 [.int .i64 y1,.int .i64 k,.int .i64 y3,.int .i64 y4,.int .i64 yd])){b3 b4:Bool}
  (h3:cl n 116 [.agg [d,e,.int .i64 lw],.int .i64 y3,.int .i64 yd]=some (.bool b3,true)) (h4:cl n 116 [.agg [d,e,.int .i64 lw],.int .i64 y4,.int .i64 yd]=some (.bool b4,true)) {q:Nat} (hq:q≤2) :
  fn (n+1) (j+5) (.fn 114) [.ms 1 2 1 q 2,.fn (.func 115) [] [.ptr 0 0,.ptr 1 0]] S c = .ok (.ret (.bool (decide (1≤q) && !b3||decide (2≤q) && !b4))) S c:=by
 rw[iO (f:=114) (A:=A114) rfl rfl rfl rfl (n+1) (j+4) _ _ _ rfl,show A114.body=B114 from rfl]
 simp only[B114,Ab.abq];have e3:=f115 n (j+1) hdn hen hdf hef s0 s1 h3 (c:=c);have e4:=f115 n (j+1) hdn hen hdf hef s0 s1 h4 (c:=c);have hc:fn (n+1) (j+4) (.fn 162) [.ms 1 2 1 q 2,.fn (.func 115) [] [.ptr 0 0,.ptr 1 0]] S c = .ok (.ret (.int .i64 (if q=0 then -1 else bif !b3 then 0 else if q=1 then -1 else bif !b4 then 1 else -1))) S c:=by
  rw[iO (f:=162) (A:=A162) rfl rfl rfl rfl (n+1) (j+3) _ _ _ rfl,show A162.body=B162 from rfl]
  simp only[B162,Ab.abq];have hl:∀q,lenD false (.ms 1 2 1 q 2)=some q:=fun _=>rfl
  have i01:kG 1 (.int .i64 0)=some 0:=rfl;have i02:kG 2 (.int .i64 0)=some 0:=rfl;have i1:kG 2 (.int .i64 1)=some 1:=rfl;have w1:cT .i64 1=1:=rfl;have ia:kE 1 (.ms 1 2 1 1 2) (.int .i64 0)=some (.ptr 1 2)∧kE 1 (.ms 1 2 1 2 2) (.int .i64 0)=some (.ptr 1 2)∧kE 1 (.ms 1 2 1 2 2) (.int .i64 1)=some (.ptr 1 3):=⟨rfl,rfl,rfl⟩
  have k:((0:Nat):Int)=0∧((1:Nat):Int)=1∧((2:Nat):Int)=2:=⟨rfl,rfl,rfl⟩;have w2:cT .i64 2=2:=rfl;obtain rfl|rfl|rfl:q=0∨q=1∨q=2:=by omega
  ·simp only[z2,seval,hl,k,zun,Int.reduceLT,nb,A162]
  all_goals (cases b3<;>cases b4)
  all_goals simp only[z2,seval,hl,k,ia,vL,cf_fn,i01,i02,i1,w1,w2,zun,s1,e3,e4,Int.reduceLT,Int.reduceAdd,nb,A162]
 simp only[z2,seval,hc,A114];obtain rfl|rfl|rfl:q=0∨q=1∨q=2:=by omega
 all_goals (cases b3<;>cases b4<;>rfl)
theorem cmp2(a b c d:Int):pI (.ty (.parts [(0,none,.int),(1,none,.int)])) (.agg [.int .i64 a,.int .i64 b]) (.agg [.int .i64 c,.int .i64 d])=some (decide (a=c)&&decide (b=d)):=by
 have h:∀a b:Bool,(bif a then bif b then some true else some false else some false)=some (a&&b):=by decide
 exact h (a==c) (b==d)
set_option maxHeartbeats 2000000 in
theorem c73(n:Nat){ss:List (List UInt8)}{us:List Nat}{d e:D}(hd:Sl 1 hY ss d)(he:Sl 1 u8C us e)(hu:iL us)(hul:us.length=ss.length)(h8:us.length≤8)(lw:Int)(t:Ty):cl (n+1) 73 [.agg [d,e,.int .i64 lw],.agg (tyC t)]=some (.int .i64 (tyE us lw t),true):=by
 rw[cN (A:=A73) rfl (n+1) _ rfl,show A73.body=B73 from rfl]
 simp only[B73,Ab.abq];have htk:dH [d,e,.int .i64 lw] 0 (some 3)=some (.agg [d,e,.int .i64 lw]):=rfl;have h74:∀a:Int,cl n 74 [.agg [d,e,.int .i64 lw],.int .i64 a]=some (.bool (mJ us.length a),true):=fun a=>by rw[c74 n hd he.nag lw a,mJ,hul]
 by_cases hk:t.kind≠1∧t.kind≠2
 ·have hE:tyE us lw t=7:=aH (.inl hk);rw[hE];unfold tyC;simp only[z2,seval,hd.nag,he.nag,aK hk.1,aK hk.2,Int.reduceLT,Int.reduceLE,Int.reduceEq,nb,A73];rfl
 have hk':t.kind=1∨t.kind=2:=by omega
 by_cases hr0:t.rank<0
 ·have hE:tyE us lw t=7:=aH (.inr (.inl hr0));rw[hE];unfold tyC;rcases hk' with k|k<;>simp only[z2,seval,hd.nag,he.nag,k,bH hr0,Int.reduceLT,Int.reduceLE,Int.reduceEq,nb,A73]<;>rfl
 by_cases hr2:2<t.rank
 ·have hE:tyE us lw t=7:=aH (.inr (.inr hr2));rw[hE];unfold tyC;rcases hk' with k|k<;>simp only[z2,seval,hd.nag,he.nag,k,aK hr0,bH hr2,Int.reduceLT,Int.reduceLE,Int.reduceEq,nb,A73]<;>rfl
 have hE1:tyE us lw t=if mJ us.length t.a0=false∨mJ us.length t.a1=false∨mJ us.length t.data=false then 7 else
   if(t.rank=0∧t.a0≠lw)∨(t.rank≤1∧t.a1≠lw) then 6 else
   if(1≤t.rank∧uY us t.a0 t.data=false)∨(t.rank=2∧uY us t.a1 t.data=false) then 25 else 0:=aD (by omega)
 rw[hE1];have i0:kG 2 (.int .i64 0)=some 0:=rfl;have i1:kG 2 (.int .i64 1)=some 1:=rfl;have j0:uE 2 (.int .i64 0)=some 0:=rfl;have j1:uE 2 (.int .i64 1)=some 1:=rfl;have j2:uE 2 (.int .i64 2)=some 2:=rfl;cases l0:mJ us.length t.a0
 ·rw[aH (.inl rfl)];unfold tyC;rcases hk' with k|k<;>simp only[z2,seval,hd.nag,he.nag,k,aK hr0,aK hr2,htk,i0,i1,aF (f:=74) rfl,aQ,hd.fz,he.fz,h74,l0,Int.reduceLT,Int.reduceLE,Int.reduceEq,nb,A73]<;>rfl
 cases l1:mJ us.length t.a1
 ·rw[aH (.inr (.inl rfl))];unfold tyC;rcases hk' with k|k<;>simp only[z2,seval,hd.nag,he.nag,k,aK hr0,aK hr2,htk,i0,i1,aF (f:=74) rfl,aQ,hd.fz,he.fz,h74,l0,l1,Int.reduceLT,Int.reduceLE,Int.reduceEq,nb,A73]<;>rfl
 cases ld:mJ us.length t.data
 ·rw[aH (.inr (.inr rfl))];unfold tyC;rcases hk' with k|k<;>simp only[z2,seval,hd.nag,he.nag,k,aK hr0,aK hr2,htk,i0,i1,aF (f:=74) rfl,aQ,hd.fz,he.fz,h74,l0,l1,ld,Int.reduceLT,Int.reduceLE,Int.reduceEq,nb,A73]<;>rfl
 rw[aD (fun h=>by rcases h with h|h|h<;>cases h)]
 obtain⟨kd,rk,a0,a1,dt⟩:=t;dsimp only at *;have w:∀a:Int,mJ us.length a=true→∃x:Nat,a=x∧x<us.length:=fun a h=>by
  rw[mJ,bK,cI,cI]at h;exact⟨a.toNat,by omega,by omega⟩
 obtain⟨x0,rfl,g0⟩:=w _ l0;obtain⟨x1,rfl,g1⟩:=w _ l1;obtain⟨xd,rfl,gd⟩:=w _ ld;have q0:cl n 116 [.agg [d,e,.int .i64 lw],.int .i64 (x0:Nat),.int .i64 (xd:Nat)]=some (.bool (uY us (x0:Nat) (xd:Nat)),true):=c116 n hd.nag he hu lw g0 xd;have q1:cl n 116 [.agg [d,e,.int .i64 lw],.int .i64 (x1:Nat),.int .i64 (xd:Nat)]=some (.bool (uY us (x1:Nat) (xd:Nat)),true):=c116 n hd.nag he hu lw g1 xd
 clear w hE1;generalize uY us (x0:Nat) (xd:Nat)=b0 at *;generalize uY us (x1:Nat) (xd:Nat)=b1 at *;generalize (x0:Int)=y0 at *;generalize (x1:Int)=y1 at *;generalize (xd:Int)=yd at *;unfold tyC;have h114:∀(kd rk:Int) (S:St) (c q:Nat),sget S 0=some (.fix 119 [d,e,.int .i64 lw])→sget S 1=some (.fix 37 [.int .i64 kd,.int .i64 rk,.int .i64 y0,.int .i64 y1,.int .i64 yd])→q≤2 →
   fn (n+1) 4096 (.fn 114) [.ms 1 2 1 q 2,.fn (.func 115) [] [.ptr 0 0,.ptr 1 0]] S c = .ok (.ret (.bool (decide (1≤q) && !b0||decide (2≤q) && !b1))) S c:=fun kd rk S c q s0 s1 hq=>
  f114 n 4091 hd.nag he.nag hd.fz he.fz s0 s1 q0 q1 hq
 have hr:rk=0∨rk=1∨rk=2:=by omega
 rcases hr with rfl|rfl|rfl
 ·by_cases e1:lw=y1
  ·by_cases e0:lw=y0
   ·rw[aD (by simp[e0,e1];rw[←e0,e1]),aD (by simp)]
    rcases hk' with rfl|rfl<;>simp only[z2,seval,hd.nag,he.nag,dU,cP,AOp.kd,zop,tks,bV,dO,htk,i0,i1,aF (f:=74) rfl,aQ,hd.fz,he.fz,h74,l0,l1,ld,cmp2,Int.reduceLT,Int.reduceLE,Int.reduceEq,nb,eC,jG,jS,jB,tk2,bH e0,bH e1,h114 1 0,h114 2 0,fG,bY,fL,cp2,eB,dI,bO,j0,j1,j2,aN,Nat.reduceMul,Nat.reduceSub,dC,dX,A73]<;>rfl
   ·rw[aH (.inl ⟨rfl,fun h=>e0 h.symm⟩)]
    rcases hk' with rfl|rfl<;>simp only[z2,seval,hd.nag,he.nag,dU,cP,AOp.kd,zop,tks,bV,dO,htk,i0,i1,aF (f:=74) rfl,aQ,hd.fz,he.fz,h74,l0,l1,ld,cmp2,Int.reduceLT,Int.reduceLE,Int.reduceEq,nb,eC,jG,jS,jB,tk2,aK e0,bH e1,fL,cp2,eB,dI,bO,j0,j1,j2,aN,Nat.reduceMul,Nat.reduceSub,dC,dX,A73]<;>rfl
  ·rw[aH (.inr ⟨by decide,fun h=>e1 h.symm⟩)]
   by_cases e0:lw=y0
   ·rcases hk' with rfl|rfl<;>simp only[z2,seval,hd.nag,he.nag,dU,cP,AOp.kd,zop,tks,bV,dO,htk,i0,i1,aF (f:=74) rfl,aQ,hd.fz,he.fz,h74,l0,l1,ld,cmp2,Int.reduceLT,Int.reduceLE,Int.reduceEq,nb,eC,jG,jS,jB,tk2,bH e0,aK e1,fL,cp2,eB,dI,bO,j0,j1,j2,aN,Nat.reduceMul,Nat.reduceSub,dC,dX,A73]<;>rfl
   ·rcases hk' with rfl|rfl<;>simp only[z2,seval,hd.nag,he.nag,dU,cP,AOp.kd,zop,tks,bV,dO,htk,i0,i1,aF (f:=74) rfl,aQ,hd.fz,he.fz,h74,l0,l1,ld,cmp2,Int.reduceLT,Int.reduceLE,Int.reduceEq,nb,eC,jG,jS,jB,tk2,aK e0,aK e1,fL,cp2,eB,dI,bO,j0,j1,j2,aN,Nat.reduceMul,Nat.reduceSub,dC,dX,A73]<;>rfl
 ·by_cases e1:lw=y1
  ·rw[aD (by simp[e1])]
   cases b0
   ·rw[aH (by simp)]
    rcases hk' with rfl|rfl<;>simp only[z2,seval,hd.nag,he.nag,dU,cP,AOp.kd,zop,tks,bV,dO,htk,i0,i1,aF (f:=74) rfl,aQ,hd.fz,he.fz,h74,l0,l1,ld,cmp2,Int.reduceLT,Int.reduceLE,Int.reduceEq,nb,eC,jG,jS,jB,tk2,bH e1,h114 1 1,h114 2 1,fG,bY,fL,cp2,eB,dI,bO,j0,j1,j2,aN,Nat.reduceMul,Nat.reduceSub,dC,dX,A73]<;>rfl
   ·rw[aD (by simp)]
    rcases hk' with rfl|rfl<;>simp only[z2,seval,hd.nag,he.nag,dU,cP,AOp.kd,zop,tks,bV,dO,htk,i0,i1,aF (f:=74) rfl,aQ,hd.fz,he.fz,h74,l0,l1,ld,cmp2,Int.reduceLT,Int.reduceLE,Int.reduceEq,nb,eC,jG,jS,jB,tk2,bH e1,h114 1 1,h114 2 1,fG,bY,fL,cp2,eB,dI,bO,j0,j1,j2,aN,Nat.reduceMul,Nat.reduceSub,dC,dX,A73]<;>rfl
  ·rw[aH (.inr ⟨by decide,fun h=>e1 h.symm⟩)]
   rcases hk' with rfl|rfl<;>simp only[z2,seval,hd.nag,he.nag,dU,cP,AOp.kd,zop,tks,bV,dO,htk,i0,i1,aF (f:=74) rfl,aQ,hd.fz,he.fz,h74,l0,l1,ld,cmp2,Int.reduceLT,Int.reduceLE,Int.reduceEq,nb,eC,jG,jS,jB,tk2,aK e1,fL,cp2,eB,dI,bO,j0,j1,j2,aN,Nat.reduceMul,Nat.reduceSub,dC,dX,A73]<;>rfl
 ·rw[aD (by simp)]
  cases b0
  ·rw[aH (by simp)]
   rcases hk' with rfl|rfl<;>simp only[z2,seval,hd.nag,he.nag,dU,cP,AOp.kd,zop,tks,bV,dO,htk,i0,i1,aF (f:=74) rfl,aQ,hd.fz,he.fz,h74,l0,l1,ld,cmp2,Int.reduceLT,Int.reduceLE,Int.reduceEq,nb,eC,jG,jS,jB,tk2,h114 1 2,h114 2 2,fG,bY,fL,cp2,eB,dI,bO,j0,j1,j2,aN,Nat.reduceMul,Nat.reduceSub,dC,dX,A73]<;>rfl
  cases b1
  ·rw[aH (by simp)]
   rcases hk' with rfl|rfl<;>simp only[z2,seval,hd.nag,he.nag,dU,cP,AOp.kd,zop,tks,bV,dO,htk,i0,i1,aF (f:=74) rfl,aQ,hd.fz,he.fz,h74,l0,l1,ld,cmp2,Int.reduceLT,Int.reduceLE,Int.reduceEq,nb,eC,jG,jS,jB,tk2,h114 1 2,h114 2 2,fG,bY,fL,cp2,eB,dI,bO,j0,j1,j2,aN,Nat.reduceMul,Nat.reduceSub,dC,dX,A73]<;>rfl
  ·rw[aD (by simp)]
   rcases hk' with rfl|rfl<;>simp only[z2,seval,hd.nag,he.nag,dU,cP,AOp.kd,zop,tks,bV,dO,htk,i0,i1,aF (f:=74) rfl,aQ,hd.fz,he.fz,h74,l0,l1,ld,cmp2,Int.reduceLT,Int.reduceLE,Int.reduceEq,nb,eC,jG,jS,jB,tk2,h114 1 2,h114 2 2,fG,bY,fL,cp2,eB,dI,bO,j0,j1,j2,aN,Nat.reduceMul,Nat.reduceSub,dC,dX,A73]<;>rfl
theorem CHK_ord{ss:List (List UInt8)}{us:List Nat}(h:CHK ss us=e2 0 0):us.length=ss.length∧(1≤ss.length∧ss.length≤8)∧∀a,a<ss.length→kN ss.length (uM us) a=true:=by
 unfold CHK at h;rcases lT ss with⟨h1,h2⟩|⟨h1,a,er,h2,h3⟩
 ·rw[aH h1]at h;by_cases hl:us.length=ss.length
  ·rw[aH hl]at h;unfold ordD at h;refine⟨hl,(kV.1 h1).1,fun a ha=>?_⟩
   rcases eV (pE ss.length (uM us)) (rS ss.length (uM us)) ss.length 0 with⟨hb,h'⟩|⟨m,r,_,h2,h3,_,h5⟩
   ·have:=hb a (by omega) (by omega)
    unfold pE at this;cases hl:kN ss.length (uM us) a
    ·rw[hl]at this;cases this
    ·rfl
   ·rw[h5]at h;unfold pE at h3;cases hb:kN ss.length (uM us) m<;>rw[hb]at h3
    ·cases h3;exact absurd (lW h).2 (by decide)
    ·cases h3
  ·rw[aD hl]at h;exact absurd (lW h).2 (by decide)
 ·rw[aD (by rw[h1];decide),h2]at h;exact absurd (lW h).2 h3
theorem ord_trans{n:Nat}{u:Nat→Nat}(h:∀a,a<n→kN n u a=true){a b c:Nat}(ha:a<n)(hb:b<n)(hc:c<n)(h1:(u a).testBit b=true)(h2:(u b).testBit c=true):(u a).testBit c=true:=by
 have:=h a ha;simp only[kN,bK]at this;have h3:=jA.1 this.2.2 b hb;simp only[okA,h1,bM,Bool.false_or,bK,Nat.beq_eq]at h3;have h4:((u b&&&(2 ^ n-1))&&&u a).testBit c=(u b&&&(2 ^ n-1)).testBit c:=by rw[h3.2]
 simpa[Nat.testBit_and,Nat.testBit_two_pow_sub_one,hc,h2]using h4
theorem sI{n:Nat}{u:Nat→Nat}(h:∀a,a<n→kN n u a=true){a:Nat}(ha:a<n):(u a).testBit a=true∧u a<2 ^ n:=by
 have:=h a ha;simp only[kN,bK,Nat.blt_eq]at this;exact⟨this.2.1,this.1⟩
theorem ord_anti{n:Nat}{u:Nat→Nat}(h:∀a,a<n→kN n u a=true){a b:Nat}(ha:a<n)(hb:b<n)(h1:(u a).testBit b=true)(h2:(u b).testBit a=true):a=b:=by
 have:=h a ha;simp only[kN,bK]at this;have h3:=jA.1 this.2.2 b hb;simp only[okA,h1,h2,bM,Bool.false_or,Bool.or_false,bK,Nat.beq_eq]at h3;exact h3.1.symm
theorem has_low{ss:List (List UInt8)}{us:List Nat}(h:CHK ss us=e2 0 0):∃b,b<ss.length∧∀i,i<ss.length→(uM us b).testBit i=true:=by
 obtain⟨hl,⟨h1,h8⟩,ho⟩:=CHK_ord h;have hlat:=latD_good (CHK_lat h);have:∀k,k≤ss.length→∃b,b<ss.length∧∀i,i<k→(uM us b).testBit i=true:=by
  intro k
  induction k with
  | zero=>exact fun _=>⟨0,by omega,nofun⟩
  | succ k ih=>
   intro hk;obtain⟨b,hb,hall⟩:=ih (by omega)
   have h2:=hlat b hb k (by omega)
   unfold lat2 at h2;simp only[bK,Bool.not_eq_true',cE]at h2;have h3:=h2.2;unfold kC at h3;rcases eV (lR (dnM (uM us) ss.length ss.length) b k) (-1) ss.length 0 with⟨_,h'⟩|⟨m,r,_,hm,h5,_,_⟩
   ·rw[h']at h3;exact absurd (by decide) h3
   have hm':m<ss.length:=by omega
   unfold lR at h5;split at h5
   case isFalse=>cases h5
   case isTrue he=>
    have hmm:(dnM (uM us) ss.length ss.length m).testBit m=true:=by rw[xH];simp[hm',(sI ho hm').1]
    rw[aS he,Nat.testBit_and,xH,xH]at hmm;simp only[bK,cI]at hmm;refine⟨m,hm',fun i hi=>?_⟩
    rcases dB.1 hi with h'|rfl
    ·exact ord_trans ho hm' hb (by omega) hmm.1.2.1 (hall i h')
    ·exact hmm.2.2.1
 exact this _ (aI _)
theorem pop_full:∀k,k≤8→∀v,v<2 ^ k→(k≤pop v↔v=2 ^ k-1):=by
 have:∀k,k<9→∀v,v<2 ^ k→(k≤pop v↔v=2 ^ k-1):=by decide +kernel
 exact fun k hk=>this k (by omega)
theorem wR{ss:List (List UInt8)}{us:List Nat}(h:CHK ss us=e2 0 0):∃b:Nat,b<ss.length∧iG us=b∧endI (uM us) ss.length=b∧∀i,i<ss.length→(uM us b).testBit i=true:=by
 obtain⟨hl,⟨h1,h8⟩,ho⟩:=CHK_ord h;obtain⟨b,hb,hall⟩:=has_low h;have hub:uM us b=2 ^ ss.length-1:=by
  refine Nat.eq_of_testBit_eq fun i=>?_
  rw[Nat.testBit_two_pow_sub_one];by_cases hi:i<ss.length
  ·rw[hall i hi,bH hi]
  ·rw[aK hi,Nat.testBit_lt_two_pow];exact bX (sI ho hb).2 (Nat.pow_le_pow_right (by omega) (by omega))
 have huniq:∀j,j<ss.length→uM us j=2 ^ ss.length-1→j=b:=fun j hj he=>
  ord_anti ho hj hb (by rw[he,Nat.testBit_two_pow_sub_one];simpa using hb) (hall j hj)
 have hD:∀j,us.getD j 0=uM us j:=fun _=>rfl
 refine⟨b,hb,?_,?_,hall⟩
 ·unfold iG;rw[hl];refine fX hb (by rw[lowP,aH (by rw[hD,hub,hl])]) fun j hj=>?_
  rw[lowP,aD];intro he;rw[hD,hl]at he;have:=huniq j (by omega) he
  omega
 ·unfold endI;refine fX hb (by rw[endP,aH (.inr ((pop_full _ h8 _ (sI ho hb).2).2 hub))]) fun j hj=>?_
  rw[endP,aD];rintro(he|he)
  ·omega
  ·have:=huniq j (by omega) ((pop_full _ h8 _ (sI ho (by omega)).2).1 he)
   omega
theorem c62(n:Nat){ss:List (List UInt8)}{us:List Nat}{d e:D}(hd:Sl 1 hY ss d)(he:Sl 1 u8C us e)(hu:iL us)(hs:pX ss)(hC:CHK ss us=e2 0 0)(t:Ty):cl (n+9) 62 [.agg [d,e],.agg (tyC t)]=some (.int .i64 (tyE us (iG us) t),true):=by
 rw[cN (A:=A62) rfl (n+9) _ rfl,show A62.body=B62 from rfl]
 simp only[B62,Ab.abq];have htk:dH [d,e] 0 (some 2)=some (.agg [d,e]):=rfl;have htk3:∀x:Int,dH [d,e,.int .i64 x] 0 (some 3)=some (.agg [d,e,.int .i64 x]):=fun _=>rfl
 obtain⟨hl,⟨h1,h8⟩,_⟩:=CHK_ord hC;obtain⟨f,h72⟩:=c72 n hd he hu hs hC hl h1 h8;obtain⟨b,_,e1,e2,_⟩:=wR hC;have h73:=c73 (n+7) hd he hu hl (by omega) (iG us) t
 have htt:∀t:Ty,dH (tyC t) 0 (some 5)=some (.agg (tyC t)):=fun _=>rfl
 have htn:∀t:Ty,(tyC t).any eP=false∧(tyC t).length=5:=fun _=>⟨rfl,rfl⟩
 have hft:∀s,frz false 20 s (.agg (tyC t))=some (.agg (tyC t)):=fun _=>rfl
 rw[e2,←e1]at h72;cases f
 all_goals simp only[z2,seval,hd.nag,he.nag,htk,htk3,htt,(htn t).1,(htn t).2,hft,aF (f:=72) rfl,aF (f:=73) rfl,aQ,hd.fz,he.fz,h72,h73,D.pures,D.pure,hd.pure,he.pure,Bool.and_self,Bool.or_true,fJ,nb,A62]
 all_goals rfl
theorem k2:kA .shr (.int .i64 64) (.int .u64 2)=some (.int .i64 16):=rfl
theorem k3:kA .shr (.int .i64 64) (.int .u64 3)=some (.int .i64 8):=rfl
theorem k4:kA .shr (.int .i64 64) (.int .u64 4)=some (.int .i64 4):=rfl
theorem kc:((1:Nat):Int)=1∧((2:Nat):Int)=2∧((3:Nat):Int)=3∧((4:Nat):Int)=4:=⟨rfl,rfl,rfl,rfl⟩
def cZ{α:Type}(e:α→List D)(l:List α):List D:=(l.map e).flatten
theorem rH{α:Type}(e:α→List D)(l l':List α):cZ e (l++l')=cZ e l++cZ e l':=by
 unfold cZ;rw[List.map_append,List.flatten_append]
structure EncG {α:Type} (w:Nat) (e:α→List D):Prop where
 len:∀a,(e a).length=w
 pos:0<w
 nag:∀a,(e a).any eP=false
 frz:∀a p k s,(e a).mapM (Zv.frz p (k+1) s)=some (e a)
theorem EncG.cells_len{α:Type}{w:Nat}{e:α→List D}(h:EncG w e):∀l:List α,(cZ e l).length=l.length*w
 | []=>by simp[cZ]
 | a::l=>by
  have:=h.cells_len l;unfold cZ at this ⊢;rw[bY,eH,dK,h.len,this,aV,Nat.add_mul];omega
theorem EncG.cells_nag{α:Type}{w:Nat}{e:α→List D}(h:EncG w e):∀l:List α,(cZ e l).any eP=false
 | []=>rfl
 | a::l=>by
  have:=h.cells_nag l;unfold cZ at this ⊢;rw[bY,eH,List.any_append,h.nag,this];rfl
theorem EncG.cells_frz{α:Type}{w:Nat}{e:α→List D}(h:EncG w e)(p:Bool)(k:Nat)(s:St):∀l:List α,(cZ e l).mapM (Zv.frz p (k+1) s)=some (cZ e l)
 | []=>rfl
 | a::l=>by
  have:=h.cells_frz p k s l;unfold cZ at this ⊢;rw[bY,eH,List.mapM_append,h.frz,this];rfl
def mA{α:Type}(w:Nat)(e:α→List D)(B:Nat)(s:St)(q:D)(l:List α):Prop:=
 (q = .nils∧l=[])∨(∃m,B≤m∧q = .ms m 0 w 0 0∧sget s m=some (.fix 0 [])∧l=[])∨(∃m ty,B≤m∧q = .gs m 0 w l.length∧sget s m=some (.grow ty (cZ e l))∧l≠[])
theorem mA.len{α:Type}{w:Nat}{e:α→List D}{B:Nat}{s:St}{q:D}{l:List α}(h:mA w e B s q l):lenD false q=some l.length:=by
 rcases h with⟨rfl,rfl⟩|⟨m,_,rfl,_,rfl⟩|⟨m,ty,_,rfl,_,_⟩<;>rfl
theorem mA.nag{α:Type}{w:Nat}{e:α→List D}{B:Nat}{s:St}{q:D}{l:List α}(h:mA w e B s q l):eP q=false:=by
 rcases h with⟨rfl,rfl⟩|⟨m,_,rfl,_,rfl⟩|⟨m,ty,_,rfl,_,_⟩<;>rfl
theorem mA.keep{α:Type}{w:Nat}{e:α→List D}{B:Nat}{s s':St}{q:D}{l:List α}(h:mA w e B s q l)(hs:∀m b,B≤m→sget s m=some b→sget s' m=some b):mA w e B s' q l:=by
 rcases h with h|⟨m,h1,h2,h3,h4⟩|⟨m,ty,h1,h2,h3,h4⟩
 ·exact .inl h
 ·exact .inr (.inl ⟨m,h1,h2,hs _ _ h1 h3,h4⟩)
 ·exact .inr (.inr ⟨m,ty,h1,h2,hs _ _ h1 h3,h4⟩)
theorem mA.fz{α:Type}{w:Nat}{e:α→List D}(he:EncG w e)(p:Bool){B:Nat}{s:St}{q:D}{l:List α}(h:mA w e B s q l):∃r,(∀k,Zv.frz p (k+2) s q=some r)∧Sl w e l r:=by
 rcases h with⟨rfl,rfl⟩|⟨m,_,rfl,hs,rfl⟩|⟨m,ty,_,rfl,hs,hne⟩
 ·exact⟨.nils,fun k=>rfl,fun r hr=>by simp at hr,.inl ⟨rfl,rfl⟩⟩
 ·exact⟨.sl true 0 [],fun k=>by rw[iI,hs];simp;rfl,fun r hr=>by simp at hr,.inr ⟨true,rfl⟩⟩
 ·refine⟨.sl false l.length (cZ e l),?_,fun r hr=>?_,.inr ⟨false,by rw[gP];rfl⟩⟩
  ·intro k;rw[rC,hs];simp only[bP,fM];rw[cG (by rw[he.cells_len];exact aI _),aU,cX (by rw[he.cells_len];exact aI _),he.cells_frz];rfl
  ·obtain⟨a,_,rfl⟩:=cR.1 hr;exact he.len a
theorem own_appG{α:Type}{w:Nat}{e:α→List D}(he:EncG w e){sz ty B:Nat}(hsz:sz≤4096){x:AS}{q b:D}{l l':List α}{A:Option (D×AS)}(hA:nT x w sz ty q b=A)(h:mA w e B x.s q l)(hb:dC x.s w b=some (cZ e l',l'.length))(hlen:l.length+l'.length≤4294967296)(hc:B≤x.c)(hfr:∀m,x.c≤m→sget x.s m=none):
  ∃q' s' c',A=some (q',⟨x.t,s',c',x.d,x.r⟩)∧mA w e B s' q' (l++l')∧x.c≤c'∧(∀nm,nm<B→sget s' nm=sget x.s nm)∧∀m,c'≤m→sget s' m=none:=by
 subst hA;unfold nT;rw[hb];simp only[aB,aN];have hrm:∀k,k≤4294967296→room k sz=true:=fun k hk=>by unfold room;rw[cG hk,cG hsz];rfl
 rcases h with⟨rfl,rfl⟩|⟨m,hm,rfl,hs,rfl⟩|⟨m,ty',hm,rfl,hs,hne⟩
 ·cases l' with
  | nil=>exact⟨.nils,x.s,x.c,rfl,.inl ⟨rfl,rfl⟩,aI _,fun _ _=>rfl,hfr⟩
  | cons p r=>
   simp only[bU,bP]at hlen;rw[show Nat.beq (p::r).length 0=false from rfl,cD,hrm _ hlen,aU]
   exact⟨.gs x.c 0 w (p::r).length,sadd x.s x.c (.grow ty (cZ e (p::r))),x.c+1,rfl,.inr (.inr ⟨x.c,ty,hc,rfl,by rw[aX,aH rfl];rfl,by simp⟩),by omega,fun nm hn=>by rw[aX,aD (by omega)],fun k hk=>by rw[aX,aD (by omega)];exact hfr k (by omega)⟩
 ·have hmc:m<x.c:=gR fun h=>by rw[hfr m h]at hs;cases hs
  simp only[hs,fF,aU,bP,eB,fM,dE,bZ,bU];cases l' with
  | nil=>
   exact⟨.ms m 0 w 0 0,sset x.s m (.fix 0 []),x.c,rfl,.inr (.inl ⟨m,hm,rfl,by rw[aO,aH rfl],rfl⟩),aI _,fun nm hn=>by rw[aO,aD (by omega)],fun k hk=>by
    rw[aO,aD (by omega)];exact hfr k hk⟩
  | cons p r=>
   simp only[bU,bP]at hlen;rw[show Nat.ble (p::r).length 0=false from rfl,cD,hrm _ hlen]
   exact⟨.gs x.c 0 w (p::r).length,sadd x.s x.c (.grow ty (cZ e (p::r))),x.c+1,rfl,.inr (.inr ⟨x.c,ty,hc,rfl,by rw[aX,aH rfl],by simp⟩),by omega,fun nm hn=>by rw[aX,aD (by omega)],fun k hk=>by rw[aX,aD (by omega)];exact hfr k (by omega)⟩
 ·simp only[hs];cases l' with
  | nil=>exact⟨.gs m 0 w l.length,x.s,x.c,rfl,.inr (.inr ⟨m,ty',hm,by rw[dG],by rw[dG];exact hs,by rw[dG];exact hne⟩),aI _,fun nm hn=>rfl,hfr⟩
  | cons p r=>
   have h1:Nat.ble (0+(l.length+(p::r).length)*w) (cZ e l).length=false:=by
    rw[←eW,Nat.ble_eq,he.cells_len,bP];have:=Nat.mul_lt_mul_of_pos_right (show l.length<l.length+(p::r).length by simp) he.pos
    omega
   have h2:Nat.ble (l.length*w) (cZ e l).length=true:=cG (by rw[he.cells_len];exact aI _)
   have htk:(cZ e l).take (l.length*w)=cZ e l:=cX (by rw[he.cells_len];exact aI _)
   rw[show Nat.beq (p::r).length 0=false from rfl,cD,he.cells_nag,fF,bI,Bool.and_true,aU,h1,cD,h2,hrm _ hlen,fF,htk]
   simp only[Bool.and_true,aU];refine⟨_,_,_,rfl,.inr (.inr ⟨x.c,_,hc,by rw[dK],by rw[aX,aH rfl,rH],by simp⟩),Nat.le_succ _,fun nm hn=>?_,fun k hk=>?_⟩
   ·rw[aX,aD (by omega),iE,aD (by omega)]
   ·rw[aX,aD (by have:x.c+1≤k:=hk;omega),iE]
    split
    ·rfl
    ·exact hfr k (by have:x.c+1≤k:=hk;omega)
end
end Zv
namespace Zv
open Go Ab
noncomputable section
end
end Zv
namespace Zv
open Go
noncomputable section
open Go.Lib (decodeN decodeL)
open Go.Lib (decodeN decodeL)
def cntG:Nat→List UInt8→Option Nat
 | 0,_=>some 0
 | n+1,l=>if l=[]then some 0 else if decodeL l=(65533,1) then none else(cntG n (l.drop (decodeL l).2)).map (· + 1)
def cntL(l:List UInt8):Option Nat:=cntG l.length l
theorem cntG_fuel:∀(n m:Nat) (l:List UInt8),l.length≤n→l.length≤m→cntG n l=cntG m l
 | 0,m,l,h,h'=>by
  have:l=[]:=dY (by omega)
  subst this;cases m<;>rfl
 | n+1,0,l,h,h'=>by
  have:l=[]:=dY (by omega)
  subst this;rfl
 | n+1,m+1,l,h,h'=>by
  unfold cntG;by_cases hl:l=[]
  ·rw[aH hl,aH hl]
  ·rw[aD hl,aD hl];have hw:=Go.Lib.decodeL_width l;have:=List.length_pos_iff.2 hl;rw[cntG_fuel n m (l.drop (decodeL l).2) (by rw[fH];omega) (by rw[fH];omega)]
theorem cntL_nil:cntL []=some 0:=rfl
theorem cntL_step{l:List UInt8}(hl:l≠[]):cntL l=if decodeL l=(65533,1) then none else(cntL (l.drop (decodeL l).2)).map (· + 1):=by
 have hw:=Go.Lib.decodeL_width l;have:=List.length_pos_iff.2 hl;obtain⟨k,hk⟩:∃k,l.length=k+1:=⟨l.length-1,by omega⟩
 unfold cntL;rw[hk,cntG,aD hl,cntG_fuel k (l.drop (decodeL l).2).length _ (by rw[fH];omega) (aI _)]
theorem validG_cnt:∀(n:Nat) (l:List UInt8),Go.Lib.validGoD n l=(cntG n l).isSome
 | 0,l=>rfl
 | n+1,l=>by
  unfold Go.Lib.validGoD cntG;by_cases hl:l=[]
  ·rw[aH hl,aH hl];rfl
  ·rw[aD hl,aD hl];by_cases hd:decodeL l=(65533,1)
   ·rw[aH hd,aH ⟨by rw[hd],by rw[hd]⟩];rfl
   ·rw[aD hd,aD fun h=>hd (Prod.ext h.1 h.2),validG_cnt n]
    cases cntG n (l.drop (decodeL l).2)<;>rfl
theorem valid_cnt(l:List UInt8):Go.Lib.validD l=(cntL l).isSome:=validG_cnt _ l
def cntI(l:List UInt8):Int:=match cntL l with|some k=>k|none=>-1
def alnum(b:UInt8):Bool:=kW b||tC b
def wordB(s:List UInt8):Bool:=match s with|[]=>false|b::r=>kW b&&(b::r).all alnum
/-! Names of primitives. -/
def strOf(d:D):List UInt8:=match d with | .str s=>s|_=>[]
def PN1:List (List UInt8):=match cl 1 210 [] with|some (.sl _ _ l,_)=>[]::l.map strOf|_=>[]
def fP(s:List UInt8)(i:Nat):Option D:=if 0<i∧PN1.getD i []=s then some (e2 i 0) else none
def findD(s:List UInt8):D:=scan (fP s) (e2 0 4) 41 0
/-! The table. -/
def tabC:List D:=match cl 1 155 [] with|some (.sl _ _ l,_)=>l|_=>[]
theorem c155(n:Nat):cl (n+1) 155 []=some (.sl true 41 tabC,false):=by kernel_rfl
def tabE(r:List UInt8×D×D×D×D):List D:=[.str r.1,r.2.1,r.2.2.1,r.2.2.2.1,r.2.2.2.2]
def un5:Nat→List D→List (List UInt8×D×D×D×D)
 | k+1,.str a::b::c::d::e::r=>(a,b,c,d,e)::un5 k r
 | _,_=>[]
def tabL:List (List UInt8×D×D×D×D):=un5 41 tabC
theorem tab_eq:tabC=(tabL.map tabE).flatten:=by kernel_rfl
theorem tab_len:tabL.length=41:=by kernel_rfl
theorem tab_names:tabL.map (fun r=>r.1)=PN1:=by kernel_rfl
theorem tab_sl:Sl 5 tabE tabL (.sl true 41 tabC):=
 ⟨fun r hr=>by simp only[cR]at hr;obtain⟨p,_,rfl⟩:=hr;rfl,.inr ⟨true,by rw[gP,tab_len,tab_eq]⟩⟩
def RW:List (List UInt8):=[[118,97,114],[100,101,102],[111,117,116],[105,102],[101,108,115,101],[119,104,105,108,101],[101,110,100],[114,101,108,101,97,115,101],[105,110,116],[99,104,97,114]]
def resB(s:List UInt8):Bool:=RW.contains s
def wordE(s:List UInt8):Int:=bif wordB s then bif decide (16<s.length) then 3 else 0 else 6
theorem find_cases(s:List UInt8):(∃p:Nat,findD s=e2 p 0)∨findD s=e2 0 4:=by
 unfold findD;rcases eV (fP s) (e2 0 4) 41 0 with⟨_,h⟩|⟨m,r,_,_,h3,_,h5⟩
 ·exact .inr h
 ·rw[h5];unfold fP at h3;split at h3
  ·cases h3;exact .inl ⟨_,rfl⟩
  ·cases h3
def foundB(s:List UInt8):Bool:=match findD s with | .tup [_,.int _ e]=>decide (e=0)|_=>false
def iQ(s:List UInt8):Bool:=decide (wordE s=0)&&(!foundB s && !resB s)
def uP(i:Nat)(x:Option (D×Bool)):Bool:=match x with
 | some (.tup [.int .i64 a,.int .i64 _],true)=>(decide (a=8)==(Nat.ble 97 i&&Nat.ble i 122))&&(decide (a=6)==(Nat.ble 48 i&&Nat.ble i 57))
 | _=>false
theorem cls0(n:Nat):((List.range 32).all fun(i:Nat)=>uP (0+i) (cl (n+6) 208 [.int .i64 ((0+i:Nat):Int)]))=true:=by kernel_rfl
theorem cls1(n:Nat):((List.range 32).all fun(i:Nat)=>uP (32+i) (cl (n+6) 208 [.int .i64 ((32+i:Nat):Int)]))=true:=by kernel_rfl
theorem cls2(n:Nat):((List.range 32).all fun(i:Nat)=>uP (64+i) (cl (n+6) 208 [.int .i64 ((64+i:Nat):Int)]))=true:=by kernel_rfl
theorem cls3(n:Nat):((List.range 32).all fun(i:Nat)=>uP (96+i) (cl (n+6) 208 [.int .i64 ((96+i:Nat):Int)]))=true:=by kernel_rfl
theorem cls4(n:Nat):((List.range 32).all fun(i:Nat)=>uP (128+i) (cl (n+6) 208 [.int .i64 ((128+i:Nat):Int)]))=true:=by kernel_rfl
theorem cls5(n:Nat):((List.range 32).all fun(i:Nat)=>uP (160+i) (cl (n+6) 208 [.int .i64 ((160+i:Nat):Int)]))=true:=by kernel_rfl
theorem cls6(n:Nat):((List.range 32).all fun(i:Nat)=>uP (192+i) (cl (n+6) 208 [.int .i64 ((192+i:Nat):Int)]))=true:=by kernel_rfl
theorem cls7(n:Nat):((List.range 32).all fun(i:Nat)=>uP (224+i) (cl (n+6) 208 [.int .i64 ((224+i:Nat):Int)]))=true:=by kernel_rfl
theorem cls(n:Nat)(b:UInt8):∃a e:Int,cl (n+6) 208 [.int .i64 (b.toNat:Int)]=some (.tup [.int .i64 a,.int .i64 e],true)∧decide (a=8)=kW b∧decide (a=6)=tC b:=by
 have h:uP b.toNat (cl (n+6) 208 [.int .i64 (b.toNat:Int)])=true:=by
  have hb:=b.toNat_lt;obtain⟨k,i,hk,hi,he⟩:∃k i,k<8∧i<32∧b.toNat=k*32+i:=⟨b.toNat / 32,b.toNat % 32,by omega,by omega,by omega⟩
  rw[he];have hi':i∈List.range 32:=List.mem_range.2 hi
  match k,hk with
  | 0,_=>exact cC.1 (cls0 n) i hi'
  | 1,_=>exact cC.1 (cls1 n) i hi'
  | 2,_=>exact cC.1 (cls2 n) i hi'
  | 3,_=>exact cC.1 (cls3 n) i hi'
  | 4,_=>exact cC.1 (cls4 n) i hi'
  | 5,_=>exact cC.1 (cls5 n) i hi'
  | 6,_=>exact cC.1 (cls6 n) i hi'
  | 7,_=>exact cC.1 (cls7 n) i hi'
 unfold uP at h;split at h
 ·rename_i a e hx;simp only[bK,beq_iff_eq]at h;exact⟨a,e,hx,h.1,h.2⟩
 ·cases h
def clsIs(s:List UInt8)(i:Nat)(v:Int):Prop:=decide (v=8)=(match s[i]? with|some b=>kW b|none=>false)∧decide (v=6)=(match s[i]? with|some b=>tC b|none=>false)
theorem f156(n j:Nat){s:List UInt8}{m T:Nat}{k:D}{st:St}{c i:Nat}(hm:sget st m=some (.fix T [.str s,k]))(hi:i≤s.length):
  ∃v:Int,fn (n+7) (j+2) (.fn 156) [.ptr m 0,.int .i64 (i:Nat)] st c = .ok (.ret (.int .i64 v)) st c∧clsIs s i v:=by
 rw[iO (f:=156) (A:=A156) rfl rfl rfl rfl (n+7) (j+1) _ _ _ rfl,show A156.body=B156 from rfl]
 simp only[B156,Ab.abq];by_cases hlt:i<s.length
 ·have hge:decide (((s.length:Nat):Int)≤(i:Nat))=false:=dF (by omega)
  have hg:s[i]?=some s[i]:=aJ hlt;obtain⟨a,e,h1,h2,h3⟩:=cls n s[i];have hb:=s[i].toNat_lt;have hw:cT .i64 (s[i].toNat:Int)=(s[i].toNat:Int):=gU (by omega) (by omega)
  simp only[z2,seval,hm,hge,fS hlt,hg,hw,aF (f:=208) rfl,aQ,h1,A156];refine⟨a,?_,by rw[hg];exact h2,by rw[hg];exact h3⟩
  rfl
 ·have hge:decide (((s.length:Nat):Int)≤(i:Nat))=true:=dT (by omega)
  have hg:s[i]?=none:=gO (by omega)
  simp only[z2,seval,hm,hge,A156];refine⟨10,?_,by rw[hg];rfl,by rw[hg];rfl⟩
  rfl
theorem clsIs.alnum{s:List UInt8}{i:Nat}{v:Int}(h:clsIs s i v):(decide (v=8)||decide (v=6))=(match s[i]? with|some b=>alnum b|none=>false):=by
 rw[h.1,h.2];cases s[i]?<;>rfl
theorem f157(n j:Nat){s:List UInt8}{m T:Nat}{st:St}{c:Nat}(hm:sget st m=some (.fix T [.str s,.int .i64 0]))(hs:s.length<9223372036854775807):
  ∃(k:Nat) (st':St) (c':Nat),k≤s.length∧(k=s.length↔s.all alnum=true)∧fn (n+7) (j+3) (.fn 157) [.ptr m 0,.int .i64 8,.int .i64 6] st c = .ok (.ret (.str (s.take k))) st' c'∧c≤c'∧∀x,x≠m→sget st' x=sget st x:=by
 rw[iO (f:=157) (A:=A157) rfl rfl rfl rfl (n+7) (j+2) _ _ _ rfl,show A157.body=B157 from rfl]
 simp only[B157,Ab.abq];obtain⟨v0,h0,hv0⟩:=f156 n j (c:=c) (i:=0) hm (dD _);have h0':fn (n+7) (j+2) (.fn 156) [.ptr m 0,.int .i64 0] st c = .ok (.ret (.int .i64 v0)) st c:=h0;simp only[z2,seval,hm,h0'];generalize hz:zloop KK _ _=rl
 refine zwhile rl hz s.length (fI hs) (fun i z=>∃t v st',z=⟨t,st',c,[],none⟩∧sget st' m=some (.fix T [.str s,.int .i64 (i:Nat)])∧(∀x,x≠m→sget st' x=sget st x)∧tget t 0 = .ptr m 0∧tget t 1 = .int .i64 8∧tget t 2 = .int .i64 6∧tget t 7 = .int .i64 0∧tget t 8 = .int .i64 v∧clsIs s i v∧∀q (h:q<s.length),q<i→alnum s[q]=true)
  ⟨_,v0,_,rfl,hm,fun _ _=>rfl,by simp[aE],by simp[aE],by simp[aE],by simp[aE],by simp[aE],hv0,nofun⟩ ?_
 rintro i z hi ⟨t,v,st',rfl,hm',hfr,q0,q1,q2,q7,q8,hv,hall⟩;have hal:=hv.alnum;have fin:(decide (v=8)||decide (v=6))=false→(i=s.length↔s.all alnum=true):=fun hc=>by
  rw[hc]at hal;constructor
  ·intro he;rw[cC];intro x hx;obtain⟨q,hq,rfl⟩:=List.mem_iff_getElem.1 hx;exact hall q hq (by omega)
  ·intro ha;refine Classical.byContradiction fun hne=>?_
   have hlt:i<s.length:=by omega
   have h1:=cC.1 ha _ (cA hlt);rw[aJ hlt]at hal;exact absurd (hal.trans h1) (by decide)
 have step:(decide (v=8)||decide (v=6))=true→∃h:i<s.length,alnum s[i]=true:=fun hc=>by
  rw[hc]at hal;cases hg:s[i]? with
  | none=>rw[hg]at hal;cases hal
  | some b=>
   obtain⟨hlt,rfl⟩:=cH.1 hg;rw[hg]at hal;exact⟨hlt,hal.symm⟩
 have next:∀h:i<s.length,∃v1:Int,fn (n+7) (j+2) (.fn 156) [.ptr m 0,.int .i64 ((i+1:Nat):Int)] (sset st' m (.fix T [.str s,.int .i64 ((i+1:Nat):Int)])) c = .ok (.ret (.int .i64 v1)) (sset st' m (.fix T [.str s,.int .i64 ((i+1:Nat):Int)])) c∧clsIs s (i+1) v1:=fun h=>
  f156 n j (by rw[aO,aH rfl]) (by omega)
 have allN:∀h:i<s.length,alnum s[i]=true→∀q (h:q<s.length),q<i+1→alnum s[q]=true:=fun h ha q hq hq2=>by
  rcases dB.1 hq2 with h'|rfl
  ·exact hall q hq h'
  ·exact ha
 have hin:i<s.length→cT .i64 ((i:Int)+1)=((i+1:Nat):Int):=fun h=>kS (by omega)
 cases h8:decide (v=8)
 ·cases h6:decide (v=6)
  ·have hf:=fin (by rw[h8,h6];rfl)
   have b1:fL s.length s.length (some (.int .i64 (i:Nat)))=some i:=by show uE s.length (.int .i64 ((i:Nat):Int))=some i;exact kQ hi
   have b2:fL i 0 (some (.int .i64 0))=some 0:=by show uE i (.int .i64 ((0:Nat):Int))=some 0;exact kQ (dD _)
   simp only[z2,seval,b1,b2,aN,fM,hm',q0,q1,q2,q7,q8,h8,h6,dU,cP,iH,nY,AOp.kd,fU,iM,iA,fV,eS,lP,dR,vX,dE,eO,A157];exact⟨i,st',_,hi,hf,rfl,by simp only[aV];omega,hfr⟩
  ·obtain⟨hlt,ha⟩:=step (by rw[h8,h6];rfl)
   obtain⟨v1,hf1,hv1⟩:=next hlt;simp only[z2,seval,hm',q0,q1,q2,q7,q8,h8,h6,hin hlt,hf1];refine⟨hlt,_,v1,_,rfl,by rw[aO,aH rfl],fun x hx=>by rw[aO,aD hx];exact hfr x hx,by simp[aE,q0],by simp[aE,q1],by simp[aE,q2],by simp[aE,q7],by simp[aE],hv1,allN hlt ha⟩
 ·obtain⟨hlt,ha⟩:=step (by rw[h8];rfl)
  obtain⟨v1,hf1,hv1⟩:=next hlt;simp only[z2,seval,hm',q0,q1,q2,q7,q8,h8,hin hlt,hf1];refine⟨hlt,_,v1,_,rfl,by rw[aO,aH rfl],fun x hx=>by rw[aO,aD hx];exact hfr x hx,by simp[aE,q0],by simp[aE,q1],by simp[aE,q2],by simp[aE,q7],by simp[aE],hv1,allN hlt ha⟩
end
end Zv
