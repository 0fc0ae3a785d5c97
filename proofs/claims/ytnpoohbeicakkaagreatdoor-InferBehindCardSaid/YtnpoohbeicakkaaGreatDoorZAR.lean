/- rules: rules in steps. Conditions: none. -/
import Derived.Test.YtnpoohbeicakkaaGreatDoorZAQ
set_option linter.unusedVariables false
set_option linter.unusedSimpArgs false
set_option maxRecDepth 100000
namespace Zv
open Go
noncomputable section
section
variable (n:Nat) {ss:List (List UInt8)} {us:List Nat} {d e:D} (h:Lt ss us d e) (a b:Tl) {bot:Nat} (hb:bot<us.length) (ha:a.ok us.length) (hb':b.ok us.length)
include h hb ha hb'
theorem r221:uF us.length (n+5) 221 (lkC d e (tl a) (tl b) bot):=by
 have h275:=fun p q z w=>c275 n h a b hb ha hb' p q z w
 have h276:=c276 (n+2) h a b hb ha hb';have h277:=c277 (n+1) h a b hb ha hb';have h280:=c280 (n+2) h a b hb ha hb';have ha9:=c279 (n+2) h a b hb ha hb' a ha;have hb9:=c279 (n+2) h a b hb ha hb' b hb';have hsa:=h.jF hb (mem2 ha.1 ha.2.1);have hsb:=h.jF hb (mem2 hb'.1 hb'.2.1);have hcJ:cJ us bot a b<us.length:=h.jF hb (mem2 hsa hsb)
 have h278:=c278 (n+3) h (tl a) (tl b) hb (pF true (cJ us bot a b) a.z) (mem2 hcJ ha.2.2) (show 2<9223372036854775807 by decide)
 refine⟨a.z,a.z,(jF us bot [a.z,b.z]:Nat),a.z,(jF us bot [cJ us bot a b,a.z]:Nat),?_,rgN ha.2.2,rgN ha.2.2,rgN (h.jF hb (mem2 ha.2.2 hb'.2.2)),rgN ha.2.2,rgN (h.jF hb (mem2 hcJ ha.2.2))⟩;rw[cN (A:=A221) rfl (n+5) _ rfl,show A221.body=B221 from rfl]
 simp only[B221,Ab.abq];unfold lkC tl tyC at *
 simp only[z0,seval,h.d.nag,h.e.nag,dU,cP,AOp.kd,zop,tks,bV,dO,cU,eC,eR,fW,b2,i20,dW,bS,aN,aF (f:=275) rfl,aF (f:=276) rfl,aF (f:=277) rfl,aF (f:=278) rfl,aF (f:=279) rfl,aF (f:=280) rfl,aQ,h.d.fz,h.e.fz,h275,h276,h277,h280,ha9,hb9,iI,Nat.reduceMul,fC,Nat.reduceAdd,Nat.reduceLeDiff,aI,aR,h278,ruD,A221]
 try rfl
theorem r225:uF us.length (n+6) 225 (lkC d e (tl a) (tl b) bot):=by
 obtain⟨p,q,z,w,c,h1,i1,i2,i3,⟨k,rfl,i4⟩,i5⟩:=r221 n h a b hb ha hb';have hsb:=h.jF hb (mem2 hb'.1 hb'.2.1);have hb9:=c279 (n+3) h a b hb ha hb' b hb';have h278:=c278 (n+4) h (tl a) (tl b) hb (pF true k (jF us bot [b.x,b.y])) (mem2 i4 hsb) (show 2<9223372036854775807 by decide)
 refine⟨p,q,z,(jF us bot [k,jF us bot [b.x,b.y]]:Nat),c,?_,i1,i2,i3,rgN (h.jF hb (mem2 i4 hsb)),i5⟩;rw[cN (A:=A225) rfl (n+6) _ rfl,show A225.body=B225 from rfl]
 simp only[B225,Ab.abq];unfold lkC tl tyC at *;unfold ruD at *
 simp only[z0,seval,h.d.nag,h.e.nag,dU,cP,AOp.kd,zop,tks,bV,dO,cU,eC,eR,fW,b2,i20,dW,bS,aN,aF (f:=275) rfl,aF (f:=276) rfl,aF (f:=277) rfl,aF (f:=278) rfl,aF (f:=279) rfl,aF (f:=280) rfl,aQ,h.d.fz,h.e.fz,hb9,iI,Nat.reduceMul,fC,Nat.reduceAdd,Nat.reduceLeDiff,aI,aR,aF (f:=221) rfl,h1,h278,A225]
 try rfl
theorem r229:uF us.length (n+5) 229 (lkC d e (tl a) (tl b) bot):=by
 have h275:=fun p q z w=>c275 n h a b hb ha hb' p q z w
 have h276:=c276 (n+2) h a b hb ha hb';have h277:=c277 (n+1) h a b hb ha hb';have h280:=c280 (n+2) h a b hb ha hb';have ha9:=c279 (n+2) h a b hb ha hb' a ha;have hb9:=c279 (n+2) h a b hb ha hb' b hb';have hsa:=h.jF hb (mem2 ha.1 ha.2.1);have hsb:=h.jF hb (mem2 hb'.1 hb'.2.1);have hcJ:cJ us bot a b<us.length:=h.jF hb (mem2 hsa hsb);have hxx:=rgN (h.jF hb (mem2 ha.1 hb'.1))
 have hyy:=rgN (h.jF hb (mem2 ha.2.1 hb'.2.1));have hdj:=rgN (h.jF hb (mem2 ha.2.2 hb'.2.2));by_cases e1:b.r<a.r
 ·refine⟨a.x,a.y,(jF us bot [a.z,b.z]:Nat),bot,(cJ us bot a b:Nat),?_,rgN ha.1,rgN ha.2.1,hdj,rgN hb,rgN hcJ⟩;rw[cN (A:=A229) rfl (n+5) _ rfl,show A229.body=B229 from rfl]
  simp only[B229,Ab.abq];unfold lkC tl tyC at *
  simp only[z0,seval,h.d.nag,h.e.nag,dU,cP,AOp.kd,zop,tks,bV,dO,cU,eC,eR,fW,b2,i20,dW,bS,aN,aF (f:=275) rfl,aF (f:=276) rfl,aF (f:=277) rfl,aF (f:=278) rfl,aF (f:=279) rfl,aF (f:=280) rfl,aQ,h.d.fz,h.e.fz,h275,h276,h277,h280,ha9,hb9,iI,Nat.reduceMul,fC,Nat.reduceAdd,Nat.reduceLeDiff,aI,aR,bH e1,ruD,A229]
  try rfl
 by_cases e2:a.r<b.r
 ·refine⟨b.x,b.y,(jF us bot [a.z,b.z]:Nat),bot,(cJ us bot a b:Nat),?_,rgN hb'.1,rgN hb'.2.1,hdj,rgN hb,rgN hcJ⟩;rw[cN (A:=A229) rfl (n+5) _ rfl,show A229.body=B229 from rfl]
  simp only[B229,Ab.abq];unfold lkC tl tyC at *
  simp only[z0,seval,h.d.nag,h.e.nag,dU,cP,AOp.kd,zop,tks,bV,dO,cU,eC,eR,fW,b2,i20,dW,bS,aN,aF (f:=275) rfl,aF (f:=276) rfl,aF (f:=277) rfl,aF (f:=278) rfl,aF (f:=279) rfl,aF (f:=280) rfl,aQ,h.d.fz,h.e.fz,h275,h276,h277,h280,ha9,hb9,iI,Nat.reduceMul,fC,Nat.reduceAdd,Nat.reduceLeDiff,aI,aR,aK e1,bH e2,ruD,A229]
  try rfl
 by_cases e3:0<a.r
 ·refine⟨(jF us bot [a.x,b.x]:Nat),(jF us bot [a.y,b.y]:Nat),(jF us bot [a.z,b.z]:Nat),(cJ us bot a b:Nat),(cJ us bot a b:Nat),?_,hxx,hyy,hdj,rgN hcJ,rgN hcJ⟩;rw[cN (A:=A229) rfl (n+5) _ rfl,show A229.body=B229 from rfl]
  simp only[B229,Ab.abq];unfold lkC tl tyC at *
  simp only[z0,seval,h.d.nag,h.e.nag,dU,cP,AOp.kd,zop,tks,bV,dO,cU,eC,eR,fW,b2,i20,dW,bS,aN,aF (f:=275) rfl,aF (f:=276) rfl,aF (f:=277) rfl,aF (f:=278) rfl,aF (f:=279) rfl,aF (f:=280) rfl,aQ,h.d.fz,h.e.fz,h275,h276,h277,h280,ha9,hb9,iI,Nat.reduceMul,fC,Nat.reduceAdd,Nat.reduceLeDiff,aI,aR,aK e1,aK e2,bH e3,ruD,A229]
  try rfl
 refine⟨(jF us bot [a.x,b.x]:Nat),(jF us bot [a.y,b.y]:Nat),(jF us bot [a.z,b.z]:Nat),bot,(cJ us bot a b:Nat),?_,hxx,hyy,hdj,rgN hb,rgN hcJ⟩;rw[cN (A:=A229) rfl (n+5) _ rfl,show A229.body=B229 from rfl]
 simp only[B229,Ab.abq];unfold lkC tl tyC at *
 simp only[z0,seval,h.d.nag,h.e.nag,dU,cP,AOp.kd,zop,tks,bV,dO,cU,eC,eR,fW,b2,i20,dW,bS,aN,aF (f:=275) rfl,aF (f:=276) rfl,aF (f:=277) rfl,aF (f:=278) rfl,aF (f:=279) rfl,aF (f:=280) rfl,aQ,h.d.fz,h.e.fz,h275,h276,h277,h280,ha9,hb9,iI,Nat.reduceMul,fC,Nat.reduceAdd,Nat.reduceLeDiff,aI,aR,aK e1,aK e2,aK e3,ruD,A229]
 try rfl
theorem r230:uF us.length (n+6) 230 (lkC d e (tl a) (tl b) bot):=by
 obtain⟨p,q,z,w,c,h1,i1,i2,i3,i4,i5⟩:=r229 n h a b hb ha hb';have hdj:=rgN (h.jF hb (mem2 ha.2.2 hb'.2.2));have h276:=c276 (n+3) h a b hb ha hb';refine⟨p,q,z,(jF us bot [a.z,b.z]:Nat),c,?_,i1,i2,i3,hdj,i5⟩;rw[cN (A:=A230) rfl (n+6) _ rfl,show A230.body=B230 from rfl]
 simp only[B230,Ab.abq];unfold lkC tl at *;unfold ruD at *
 simp only[z0,seval,h.d.nag,h.e.nag,dU,cP,AOp.kd,zop,tks,bV,dO,cU,eC,eR,fW,b2,i20,dW,bS,aN,aF (f:=275) rfl,aF (f:=276) rfl,aF (f:=277) rfl,aF (f:=278) rfl,aF (f:=279) rfl,aF (f:=280) rfl,aQ,h.d.fz,h.e.fz,h276,iI,Nat.reduceMul,fC,Nat.reduceAdd,Nat.reduceLeDiff,aI,aR,aF (f:=229) rfl,h1,A230]
 try rfl
end
def l1:List (List UInt8):=[[105,110,105,110],[107,110,105,49],[107,110,107,49],[107,49,107,49],[107,50,107,50],[105,48,105,49],[105,49,105,48],[105,50,105,49],[107,49,105,48],[107,50,105,49],[105,49,105,49],[105,50,105,50]]
def kr:List (Int×Int):=[(1,0),(1,1),(1,2),(2,0),(2,1),(2,2)]
def okM(x:Option (D×Bool)):Bool:=match x with
 | some (.tup [.int .i64 k,.int .i64 r,.bool a,.bool b],true)=>!a||(!b||(decide (0≤r)&&decide (r≤2)))
 | _=>false
theorem t215(n:Nat):l1.all (fun s=>kr.all fun p=>okM (cl (n+1) 215 [.str s,.sl false 1 [.int .i64 p.1],.sl false 1 [.int .i64 p.2]]))=true:=by kernel_rfl
def l2:List (List UInt8):=[[105,48,105,110,105,110],[105,110,105,48,105,110],[105,110,105,110,105,110],[107,48,107,110,105,110],[107,110,107,48,105,110],[107,110,107,110,105,110],[105,48,107,49,107,49],[105,48,107,48,107,49],[105,49,107,49,107,50],[107,49,107,49,107,49],[107,50,107,50,107,50],[107,49,105,48,107,48],[107,49,105,49,107,49],[107,110,107,49,105,110],[105,49,107,49,107,49]]
def mB(n:Nat)(s:List UInt8):Bool:=kr.all fun p=>kr.all fun q=>okM (cl (n+1) 215 [.str s,.sl false 2 [.int .i64 p.1,.int .i64 q.1],.sl false 2 [.int .i64 p.2,.int .i64 q.2]])
theorem b215_0(n:Nat):mB n [105,48,105,110,105,110]=true:=by kernel_rfl
theorem b215_1(n:Nat):mB n [105,110,105,48,105,110]=true:=by kernel_rfl
theorem b215_2(n:Nat):mB n [105,110,105,110,105,110]=true:=by kernel_rfl
theorem b215_3(n:Nat):mB n [107,48,107,110,105,110]=true:=by kernel_rfl
theorem b215_4(n:Nat):mB n [107,110,107,48,105,110]=true:=by kernel_rfl
theorem b215_5(n:Nat):mB n [107,110,107,110,105,110]=true:=by kernel_rfl
theorem b215_6(n:Nat):mB n [105,48,107,49,107,49]=true:=by kernel_rfl
theorem b215_7(n:Nat):mB n [105,48,107,48,107,49]=true:=by kernel_rfl
theorem b215_8(n:Nat):mB n [105,49,107,49,107,50]=true:=by kernel_rfl
theorem b215_9(n:Nat):mB n [107,49,107,49,107,49]=true:=by kernel_rfl
theorem b215_10(n:Nat):mB n [107,50,107,50,107,50]=true:=by kernel_rfl
theorem b215_11(n:Nat):mB n [107,49,105,48,107,48]=true:=by kernel_rfl
theorem b215_12(n:Nat):mB n [107,49,105,49,107,49]=true:=by kernel_rfl
theorem b215_13(n:Nat):mB n [107,110,107,49,105,110]=true:=by kernel_rfl
theorem b215_14(n:Nat):mB n [105,49,107,49,107,49]=true:=by kernel_rfl
theorem t215b(n:Nat){s:List UInt8}(hs:s∈l2):mB n s=true:=by
 simp only[l2,bN,List.not_mem_nil,or_false]at hs;rcases hs with rfl|rfl|rfl|rfl|rfl|rfl|rfl|rfl|rfl|rfl|rfl|rfl|rfl|rfl|rfl
 ·exact b215_0 n
 ·exact b215_1 n
 ·exact b215_2 n
 ·exact b215_3 n
 ·exact b215_4 n
 ·exact b215_5 n
 ·exact b215_6 n
 ·exact b215_7 n
 ·exact b215_8 n
 ·exact b215_9 n
 ·exact b215_10 n
 ·exact b215_11 n
 ·exact b215_12 n
 ·exact b215_13 n
 ·exact b215_14 n
def KR(k r:Int):Prop:=(k=1∨k=2)∧0≤r∧r≤2
theorem kr_mem{k r:Int}(h:KR k r):(k,r)∈kr:=by
 obtain⟨h1,h2,h3⟩:=h;have:r=0∨r=1∨r=2:=by omega
 rcases h1 with rfl|rfl<;>rcases this with rfl|rfl|rfl<;>decide
theorem okM_ex{x:Option (D×Bool)}(h:okM x=true):∃k r a b,x=some (.tup [.int .i64 k,.int .i64 r,.bool a,.bool b],true)∧(a=true→b=true→0≤r∧r≤2):=by
 unfold okM at h;split at h
 ·refine⟨_,_,_,_,rfl,fun ha hb=>?_⟩
  simpa[ha,hb]using h
 ·cases h
theorem c215(n:Nat){s:List UInt8}(hs:s∈l1){k r:Int}(h:KR k r):∃k' r' a b,cl (n+1) 215 [.str s,.sl false 1 [.int .i64 k],.sl false 1 [.int .i64 r]]=some (.tup [.int .i64 k',.int .i64 r',.bool a,.bool b],true)∧(a=true→b=true→0≤r'∧r'≤2):=by
 have h1:=t215 n;rw[cC]at h1;have h2:=h1 s hs;rw[cC]at h2;exact okM_ex (h2 (k,r) (kr_mem h))
theorem c215b(n:Nat){s:List UInt8}(hs:s∈l2){k r k2 r2:Int}(h:KR k r)(h2:KR k2 r2):∃k' r' a b,cl (n+1) 215 [.str s,.sl false 2 [.int .i64 k,.int .i64 k2],.sl false 2 [.int .i64 r,.int .i64 r2]]=some (.tup [.int .i64 k',.int .i64 r',.bool a,.bool b],true)∧(a=true→b=true→0≤r'∧r'≤2):=by
 have g:=t215b n hs;unfold mB at g;rw[cC]at g;have g2:=g (k,r) (kr_mem h);rw[cC]at g2;exact okM_ex (g2 (k2,r2) (kr_mem h2))
def simD:D→Bool
 | .nils=>true
 | .sl _ _ _=>true
 | .nilfn=>true
 | .fn _ [] []=>true
 | _=>false
theorem simD_fz{d:D}(h:simD d=true)(k:Nat)(s:St):frz false (k+1) s d=some d:=by
 unfold simD at h;split at h<;>first|rfl|cases h
theorem jU{d:D}(h:simD d=true):eP d=false:=by
 unfold simD at h;split at h<;>first|rfl|cases h
def inL(l:List (List UInt8))(d:D):Bool:=match d with
 | .str s=>l.contains s
 | _=>false
def fOk(i:Nat)(x:Option (D×Bool)):Bool:=match x with
 | some (.tup [.agg [.str _,.sl _ k (.str s::cs),er,f1,f2],.int .i64 0],fl)=>simD er&&(simD f1&&(simD f2&&(Nat.beq k (cs.length+1)&&(Nat.ble k 100&&(inL (if i<14 then l1 else l2) (.str s)&&(cs.all (inL (if i<14 then l1 else l2))))))))
 | _=>false
theorem f213(n:Nat):((List.range 40).all fun(i:Nat)=>fOk i (cl (n+3) 213 [.int .i64 ((i+1:Nat):Int)]))=true:=by kernel_rfl
theorem inL_ex{l:List (List UInt8)}:∀{cs:List D},cs.all (inL l)=true→∃L:List (List UInt8),cs=(L.map hY).flatten∧(∀s∈L,s∈l)∧L.length=cs.length
 | [],_=>⟨[],rfl,fun s hs=>by simp at hs,rfl⟩
 | d::cs,h=>by
  simp only[List.all_cons,bK]at h;obtain⟨L,h1,h2,h3⟩:=inL_ex h.2;have hd:=h.1;unfold inL at hd;split at hd
  ·rename_i s;exact⟨s::L,by rw[h1];rfl,fun x hx=>by rcases bN.1 hx with rfl|hx;(exact List.contains_iff_mem.1 hd);exact h2 x hx,by rw[aV,aV,h3]⟩
  ·cases hd
structure PrD (i:Nat) (l:List D) (L:List (List UInt8)):Prop where
 ex:∃nm q er f1 f2,l=[.str nm,q,er,f1,f2]∧Sl 1 hY L q∧simD er=true∧simD f1=true∧simD f2=true
 mem:∀s∈L,s∈(if i<14 then l1 else l2)
 pos:0<L.length
 lt:L.length<4294967296
theorem c213(n:Nat){i:Nat}(hi:i<40):∃l L fl,cl (n+3) 213 [.int .i64 ((i+1:Nat):Int)]=some (.tup [.agg l,.int .i64 0],fl)∧PrD i l L:=by
 have h:=f213 n;rw[cC]at h;have h:=h i (List.mem_range.2 hi);unfold fOk at h;split at h
 ·rename_i nm ex k s cs er f1 f2 fl hx;simp only[bK,Nat.beq_eq,Nat.ble_eq]at h;obtain⟨g1,g2,g3,g4,g7,g5,g6⟩:=h;obtain⟨L,h1,h2,h3⟩:=inL_ex (cs:=.str s::cs) (l:=if i<14 then l1 else l2) (by simp only[List.all_cons,bK];exact⟨g5,g6⟩)
  refine⟨_,L,fl,hx,⟨nm,_,er,f1,f2,rfl,⟨fun r hr=>?_,.inr ⟨ex,?_⟩⟩,g1,g2,g3⟩,h2,by rw[h3];simp,?_⟩
  ·obtain⟨x,_,rfl⟩:=cR.1 hr;rfl
  ·rw[gP,h3,←h1,g4,aV]
  ·rw[h3,aV,←g4];omega
 ·cases h
theorem len1:∀s∈l1,s.length=4:=by decide
theorem len2:∀s∈l2,s.length=6:=by decide
theorem quo46:kA .quo (.int .i64 4) (.int .i64 2)=some (.int .i64 2)∧kA .quo (.int .i64 6) (.int .i64 2)=some (.int .i64 3):=⟨rfl,rfl⟩
def arN(i:Nat):Nat:=if i<14 then 1 else 2
theorem c214(n:Nat){i:Nat}{l:List D}{L:List (List UInt8)}(h:PrD i l L):cl n 214 [.agg l]=some (.int .i64 (arN i:Nat),true):=by
 obtain⟨nm,q,er,f1,f2,rfl,hq,g1,g2,g3⟩:=h.ex;have h0:0<L.length:=h.pos;have hm:=h.mem _ (cA h0);rw[cN (A:=A214) rfl n _ rfl,show A214.body=B214 from rfl]
 simp only[B214,Ab.abq];have hia:=hq.ia1 h0 (k:=.i64);have hat:=hq.at1 h0;rw[show((0:Nat):Int)=0 from rfl]at hia
 by_cases hi:i<14
 ·rw[aH hi]at hm;have hl:=len1 _ hm;have hc4:((4:Nat):Int)=4:=rfl;have hc6:((6:Nat):Int)=6:=rfl;simp only[z0,seval,hc4,hc6,hq.nag,jU g1,jU g2,jU g3,hia,hat,hY,hl,quo46,show cT .i64 1=1 from rfl,arN,aH hi,A214]
  rfl
 ·rw[aD hi]at hm;have hl:=len2 _ hm;have hc4:((4:Nat):Int)=4:=rfl;have hc6:((6:Nat):Int)=6:=rfl;simp only[z0,seval,hc4,hc6,hq.nag,jU g1,jU g2,jU g3,hia,hat,hY,hl,quo46,show cT .i64 2=2 from rfl,arN,aD hi,A214]
  rfl
def kD(K:List (Int×Int)):D:=.sl false K.length (K.map fun p=>.int .i64 p.1)
def rD(K:List (Int×Int)):D:=.sl false K.length (K.map fun p=>.int .i64 p.2)
theorem kD_len(K:List (Int×Int)):lenD false (kD K)=some K.length∧lenD false (rD K)=some K.length:=⟨rfl,rfl⟩
theorem kD_fz(K:List (Int×Int))(k:Nat)(s:St):frz false (k+1) s (kD K)=some (kD K)∧frz false (k+1) s (rD K)=some (rD K):=⟨rfl,rfl⟩
theorem c215K(n:Nat){i:Nat}{s:List UInt8}(hs:s∈(if i<14 then l1 else l2)){K:List (Int×Int)}(hl:K.length=arN i)(hK:∀p∈K,KR p.1 p.2):∃k' r' a b,cl (n+1) 215 [.str s,kD K,rD K]=some (.tup [.int .i64 k',.int .i64 r',.bool a,.bool b],true)∧(a=true→b=true→0≤r'∧r'≤2):=by
 unfold arN at hl;by_cases hi:i<14
 ·rw[aH hi]at hl hs
  match K,hl with
  | [(k,r)],_=>exact c215 n hs (hK _ (bL ..))
 ·rw[aD hi]at hl hs
  match K,hl with
  | [(k,r),(k2,r2)],_=>exact c215b n hs (hK _ (bL ..)) (hK _ (bJ _ (bL ..)))
theorem c166(n:Nat)(p:Int){K:List (Int×Int)}(hl:K.length<1000)(hK:∀p∈K,KR p.1 p.2):
  ∃k r e,cl (n+4) 166 [.int .i64 p,kD K,rD K]=some (.tup [.int .i64 k,.int .i64 r,.int .i64 e],true)∧(e=0→(0≤r∧r≤2)∧1≤p∧p≤40):=by
 rw[cN (A:=A166) rfl (n+4) _ rfl,show A166.body=B166 from rfl]
 simp only[B166,Ab.abq];by_cases hp:p<1∨40<p
 ·refine⟨0,0,2,?_,fun h=>by omega⟩
  simp only[z0,seval,aF (f:=213) rfl,aQ,c213e (n+3) hp,D.pures,D.pure,Int.reduceEq,nb,A166];rfl
 obtain⟨i,hi,rfl⟩:∃i:Nat,i<40∧p=((i+1:Nat):Int):=⟨(p-1).toNat,by omega,by omega⟩
 obtain⟨l,L,fl,h213,hP⟩:=c213 n hi;have h214:=c214 (n+3) hP;obtain⟨nm,q,er,f1,f2,rfl,hq,g1,g2,g3⟩:=hP.ex;have fz1:=simD_fz g1;have fz2:=simD_fz g2;have fz3:=simD_fz g3;have hlt:=hP.lt;by_cases hm:K.length=arN i
 ·simp only[z0,seval,aF (f:=213) rfl,aQ,h213,D.pures,D.pure,Bool.or_true,nb,aF (f:=214) rfl,h214,hq.nag,jU g1,jU g2,jU g3,hq.fz,fz1,fz2,fz3,(kD_len K).1,(kD_len K).2,hm,hq.len];generalize hz:zloop KK _ _=rl
  refine zrange rl hz L.length (fI (by omega)) (by omega) (fun _ t s c=>tget t 37=q∧tget t 1=kD K∧tget t 2=rD K∧∃v:Int,tget t 8 = .int .i64 v∧v≠0) (by decide) (by simp[aE]) (by simp[aE]) (by simp[aE]) ?_ ?_
  ·rintro j t s c hj ⟨q37,q1,q2,v,q8,hv⟩ hti htn;obtain⟨k',r',a,b,h215,hr'⟩:=c215K (n+2) (hP.mem _ (cA hj)) hm hK;cases a
   ·simp only[z0,seval,q37,q1,q2,q8,hti,htn,hq.ia1 hj,hq.at1 hj,hY,aF (f:=215) rfl,aQ,(kD_fz K 19 s).1,(kD_fz K 19 s).2,h215,A166];exact⟨trivial,trivial,trivial,.inr (.inr trivial),nofun,nofun,trivial,trivial,trivial,v,rfl,hv⟩
   ·cases b
    ·simp only[z0,seval,q37,q1,q2,q8,hti,htn,hq.ia1 hj,hq.at1 hj,hY,aF (f:=215) rfl,aQ,(kD_fz K 19 s).1,(kD_fz K 19 s).2,h215,A166];exact⟨trivial,trivial,trivial,.inr (.inr trivial),nofun,nofun,trivial,trivial,trivial,22,rfl,by decide⟩
    ·simp only[z0,seval,q37,q1,q2,q8,hti,htn,hq.ia1 hj,hq.at1 hj,hY,aF (f:=215) rfl,aQ,(kD_fz K 19 s).1,(kD_fz K 19 s).2,h215,A166];exact⟨_,_,_,rfl,fun _=>⟨hr' rfl rfl,by omega,by omega⟩⟩
  ·rintro t s c ⟨q37,q1,q2,v,q8,hv⟩ hti htn;simp only[z0,seval,q8,A166];exact⟨_,_,_,rfl,fun h=>absurd h hv⟩
 ·simp only[z0,seval,aF (f:=213) rfl,aQ,h213,D.pures,D.pure,Bool.or_true,nb,aF (f:=214) rfl,h214,hq.nag,jU g1,jU g2,jU g3,hq.fz,fz1,fz2,fz3,(kD_len K).1,(kD_len K).2,hq.len,aK (show ¬((K.length:Int)=(arN i:Nat)) from fun h=>hm (Int.ofNat_inj.1 h)),A166]
  exact⟨_,_,_,rfl,fun h=>by omega⟩
def tabR:List D:=match cl 1 167 [] with|some (.agg l,_)=>l|_=>[]
theorem c167(n:Nat):cl (n+1) 167 []=some (.agg tabR,true):=by kernel_rfl
theorem tabR_len:tabR.length=41:=by kernel_rfl
def ruF:List Nat:=[216,217,218,219,220,221,222,223,224,225,226,227,228,229,230]
def isRu(d:Option D):Bool:=match d with
 | some (.fn (.func f) [] [])=>ruF.contains f
 | _=>false
theorem tabR_at:(List.range 40).all (fun i=>isRu tabR[i+1]?)=true:=by kernel_rfl
theorem ru_ps:∀f∈ruF,ps f=true:=by decide
theorem ru_all(n:Nat){ss:List (List UInt8)}{us:List Nat}{d e:D}(h:Lt ss us d e)(a b:Tl){bot:Nat}(hb:bot<us.length)(ha:a.ok us.length)(hb':b.ok us.length):∀f∈ruF,uF us.length (n+6) f (lkC d e (tl a) (tl b) bot):=by
 intro f hf;simp only[ruF,bN,List.not_mem_nil,or_false]at hf;rcases hf with rfl|rfl|rfl|rfl|rfl|rfl|rfl|rfl|rfl|rfl|rfl|rfl|rfl|rfl|rfl
 ·exact r216 (n+1) h a b hb ha hb'
 ·exact r217 (n+1) h a b hb ha hb'
 ·exact r218 (n+1) h a b hb ha hb'
 ·exact r219 (n+1) h a b hb ha hb'
 ·exact r220 (n+1) h a b hb ha hb'
 ·exact r221 (n+1) h a b hb ha hb'
 ·exact r222 (n+1) h a b hb ha hb'
 ·exact r223 (n+1) h a b hb ha hb'
 ·exact r224 (n+1) h a b hb ha hb'
 ·exact r225 n h a b hb ha hb'
 ·exact r226 (n+1) h a b hb ha hb'
 ·exact r227 (n+1) h a b hb ha hb'
 ·exact r228 (n+1) h a b hb ha hb'
 ·exact r229 (n+1) h a b hb ha hb'
 ·exact r230 n h a b hb ha hb'
theorem tabR_fn{i:Nat}(hi:i<40):∃f∈ruF,tabR[i+1]?=some (.fn (.func f) [] []):=by
 have h:=tabR_at;rw[cC]at h;have h:=h i (List.mem_range.2 hi);unfold isRu at h;split at h
 ·rename_i f hf;exact⟨f,List.contains_iff_mem.1 h,hf⟩
 ·cases h
theorem appN(t:Tm)(s:St)(c nm ty ty':Nat)(dd:List (D×List D))(r:Option Nat)(v:D):nT ⟨t,sadd s nm (.fix ty' [v]),c,dd,r⟩ 1 8 ty .nils (.ms nm 0 1 1 1)=some (.gs c 0 1 1,⟨t,sadd (sadd s nm (.fix ty' [v])) c (.grow ty [v]),c+1,dd,r⟩):=by
 unfold nT;simp only[dC,aX,↓reduceIte];rfl
def tlC(t:Tl):List D:=tyC (tl t)
def RuRes(m:Nat)(x:Option (D×Bool)):Prop:=∃k r p q z w c e:Int,x=some (.tup [.agg [.int .i64 k,.int .i64 r,.int .i64 p,.int .i64 q,.int .i64 z,.int .i64 w,.int .i64 c],.int .i64 e],true)∧(e=0→Rg m w∧Rg m c)
set_option maxHeartbeats 1000000 in
theorem c126_1(n:Nat){ss:List (List UInt8)}{us:List Nat}{d e:D}(h:Lt ss us d e)(t:Tl)(ht:t.ok us.length)(hk:KR t.k t.r)(hE:tyE us (iG us) (tl t)=0)(p:Int){q:D}(hq:Sl 5 tlC [t] q):
  RuRes us.length (cl (n+12) 126 [.agg [d,e],.int .i64 p,q]):=by
 rw[cN (A:=A126) rfl (n+12) _ rfl,show A126.body=B126 from rfl]
 unfold B126 RuRes;obtain⟨bot,hb,hlow,hend,_⟩:=wR h.c;have hb2:bot<us.length:=h.l▸hb
 have h59:=c59 (n+6) h.d h.e h.u h.s;have h43:=c43 (n+4) h.d h.e h.u h.s h.c h.l h.h1 h.h8;have h62:=c62 (n+2) h.d h.e h.u h.s h.c (tl t);rw[h.c]at h59;rw[hend]at h43;rw[hE]at h62;have hlen:=hq.len;have hia:=hq.ia (i:=0) (show 0<[t].length from Nat.zero_lt_one) (k:=.i64)
 have hc0:((0:Nat):Int)=0:=rfl;have hc1:((([t]:List Tl).length:Nat):Int)=1:=rfl;have htk:dH [d,e] 0 (some 2)=some (.agg [d,e]):=rfl;rw[hc0]at hia;have hfl:(List.map tlC [t]).flatten=[.int .i64 t.k,.int .i64 t.r,.int .i64 (t.x:Nat),.int .i64 (t.y:Nat),.int .i64 (t.z:Nat)]:=rfl;rw[hfl,eB]at hia;simp only[tyC,tl]at h62
 obtain⟨k',r',e',h166,hr'⟩:=c166 (n+7) p (K:=[(t.k,t.r)]) (show 1<1000 by decide) (fun p hp=>by rw[dJ.1 hp];exact hk)
 simp only[kD,rD,bY,fG,aV,bU,bP]at h166;by_cases he':e'=0
 ·subst he';obtain⟨hr2,hp1,hp2⟩:=hr' rfl;obtain⟨i,hi,rfl⟩:∃i:Nat,i<40∧p=((i+1:Nat):Int):=⟨(p-1).toNat,by omega,by omega⟩
  obtain⟨f,hf,htab⟩:=tabR_fn hi;have hps:=ru_ps f hf;obtain⟨x1,x2,x3,x4,x5,hru,i1,i2,i3,i4,i5⟩:=ru_all (n+5) h t ⟨0,0,bot,bot,bot⟩ hb2 ht ⟨hb2,hb2,hb2⟩ f hf;simp only[lkC,tl,ruD]at hru;have h167:=c167 (n+10);have hix:kG 41 (.int .i64 ((i+1:Nat):Int))=some (i+1):=fS (by omega)
  have hr3:r'=0∨r'=1∨r'=2:=by omega
  rcases hr3 with rfl|rfl|rfl<;>simp only[z0,seval,seval,eB,appN,aV,bU,h.d.nag,h.e.nag,hlen,hc1,Int.reduceLT,htk,aF (f:=59) rfl,aF (f:=43) rfl,aF (f:=62) rfl,aQ,h.d.fz,h.e.fz,h59,h43,e2,nb,hia,h62,zun,Int.reduceAdd,show cT .i64 1=1 from rfl,show cT .i64 2=2 from rfl,i20,dU,cP,AOp.kd,zop,tks,bV,dO,cU,eR,dW,bS,aN,rC,aF (f:=166) rfl,h166,aF (f:=167) rfl,h167,hix,htab,tabR_len,rW,vL,cf_fn,dI,aF hps,hru,A126]
  all_goals exact⟨_,_,_,_,_,_,_,_,rfl,fun _=>⟨i4,i5⟩⟩
 ·simp only[z0,seval,seval,eB,appN,aV,bU,h.d.nag,h.e.nag,hlen,hc1,Int.reduceLT,htk,aF (f:=59) rfl,aF (f:=43) rfl,aF (f:=62) rfl,aQ,h.d.fz,h.e.fz,h59,h43,e2,nb,hia,h62,zun,Int.reduceAdd,show cT .i64 1=1 from rfl,show cT .i64 2=2 from rfl,i20,dU,cP,AOp.kd,zop,tks,bV,dO,cU,eR,dW,bS,aN,rC,aF (f:=166) rfl,h166,aK he',A126]
  exact⟨_,_,_,_,_,_,_,_,rfl,fun h=>absurd h he'⟩
def apG(a b:Option Blk)(x:AS)(m nm:Nat):Option (D×AS):=match a,b with
 | some (.grow 4 [u]),some (.fix _ [.int k v])=>some (.gs x.c 0 1 2,⟨x.t,sadd (sdel x.s m) x.c (.grow 4 [u,.int k v]),x.c+1,x.d,x.r⟩)
 | _,_=>nT x 1 8 4 (.gs m 0 1 1) (.ms nm 0 1 1 1)
theorem appG(x:AS)(m nm:Nat):nT x 1 8 4 (.gs m 0 1 1) (.ms nm 0 1 1 1)=apG (sget x.s m) (sget x.s nm) x m nm:=by
 unfold apG;split
 ·rename_i h1 h2;unfold nT;simp only[dC,h2,h1];rfl
 ·rfl
theorem apG_eq(u:D)(ty:Nat)(k:IntKind)(v:Int)(x:AS)(m nm:Nat):apG (some (.grow 4 [u])) (some (.fix ty [.int k v])) x m nm=some (.gs x.c 0 1 2,⟨x.t,sadd (sdel x.s m) x.c (.grow 4 [u,.int k v]),x.c+1,x.d,x.r⟩):=rfl
set_option maxHeartbeats 1000000 in
theorem c126_2(n:Nat){ss:List (List UInt8)}{us:List Nat}{d e:D}(h:Lt ss us d e)(t u:Tl)(ht:t.ok us.length)(hk:KR t.k t.r)(hE:tyE us (iG us) (tl t)=0)(hu:u.ok us.length)(hku:KR u.k u.r)(hEu:tyE us (iG us) (tl u)=0)(p:Int){q:D}(hq:Sl 5 tlC [t,u] q):
  RuRes us.length (cl (n+12) 126 [.agg [d,e],.int .i64 p,q]):=by
 rw[cN (A:=A126) rfl (n+12) _ rfl,show A126.body=B126 from rfl]
 unfold B126 RuRes;obtain⟨bot,hb,hlow,hend,_⟩:=wR h.c;have hb2:bot<us.length:=h.l▸hb
 have h59:=c59 (n+6) h.d h.e h.u h.s;have h43:=c43 (n+4) h.d h.e h.u h.s h.c h.l h.h1 h.h8;have h62:=c62 (n+2) h.d h.e h.u h.s h.c (tl t);rw[h.c]at h59;rw[hend]at h43;have h62u:=c62 (n+2) h.d h.e h.u h.s h.c (tl u);rw[hE]at h62;rw[hEu]at h62u;have hlen:=hq.len;have hia:=hq.ia (i:=0) (show 0<[t,u].length from Nat.zero_lt_two) (k:=.i64)
 have hia1:=hq.ia (i:=1) (show 1<[t,u].length from Nat.one_lt_two) (k:=.i64)
 have hc0:((0:Nat):Int)=0:=rfl;have hc1:((([t,u]:List Tl).length:Nat):Int)=2:=rfl;have hc2:((1:Nat):Int)=1:=rfl;have htk:dH [d,e] 0 (some 2)=some (.agg [d,e]):=rfl;rw[hc0]at hia;rw[hc2]at hia1
 have hfl:(List.map tlC [t,u]).flatten=[.int .i64 t.k,.int .i64 t.r,.int .i64 (t.x:Nat),.int .i64 (t.y:Nat),.int .i64 (t.z:Nat),.int .i64 u.k,.int .i64 u.r,.int .i64 (u.x:Nat),.int .i64 (u.y:Nat),.int .i64 (u.z:Nat)]:=rfl;rw[hfl,eB]at hia;rw[hfl,Nat.one_mul]at hia1;simp only[tyC,tl]at h62 h62u
 obtain⟨k',r',e',h166,hr'⟩:=c166 (n+7) p (K:=[(t.k,t.r),(u.k,u.r)]) (show 2<1000 by decide) (fun p hp=>by rcases bN.1 hp with rfl|hp;exact hk;rw[dJ.1 hp];exact hku)
 simp only[kD,rD,bY,fG,aV,bU,bP]at h166;by_cases he':e'=0
 ·subst he';obtain⟨hr2,hp1,hp2⟩:=hr' rfl;obtain⟨i,hi,rfl⟩:∃i:Nat,i<40∧p=((i+1:Nat):Int):=⟨(p-1).toNat,by omega,by omega⟩
  obtain⟨f,hf,htab⟩:=tabR_fn hi;have hps:=ru_ps f hf;obtain⟨x1,x2,x3,x4,x5,hru,i1,i2,i3,i4,i5⟩:=ru_all (n+5) h t u hb2 ht hu f hf;simp only[lkC,tl,ruD]at hru;have h167:=c167 (n+10);have hix:kG 41 (.int .i64 ((i+1:Nat):Int))=some (i+1):=fS (by omega)
  have hr3:r'=0∨r'=1∨r'=2:=by omega
  rcases hr3 with rfl|rfl|rfl<;>simp only[z0,seval,seval,eB,appN,appG,apG_eq,iE,aV,bU,h.d.nag,h.e.nag,hlen,hc1,Int.reduceLT,htk,aF (f:=59) rfl,aF (f:=43) rfl,aF (f:=62) rfl,aQ,h.d.fz,h.e.fz,h59,h43,e2,nb,hia,hia1,h62,h62u,zun,Int.reduceAdd,show cT .i64 1=1 from rfl,show cT .i64 2=2 from rfl,i20,dU,cP,AOp.kd,zop,tks,bV,dO,cU,eR,dW,bS,aN,rC,aF (f:=166) rfl,h166,aF (f:=167) rfl,h167,hix,htab,tabR_len,rW,vL,cf_fn,dI,aF hps,hru,A126]
  all_goals exact⟨_,_,_,_,_,_,_,_,rfl,fun _=>⟨i4,i5⟩⟩
 ·simp only[z0,seval,seval,eB,appN,appG,apG_eq,iE,aV,bU,h.d.nag,h.e.nag,hlen,hc1,Int.reduceLT,htk,aF (f:=59) rfl,aF (f:=43) rfl,aF (f:=62) rfl,aQ,h.d.fz,h.e.fz,h59,h43,e2,nb,hia,hia1,h62,h62u,zun,Int.reduceAdd,show cT .i64 1=1 from rfl,show cT .i64 2=2 from rfl,i20,dU,cP,AOp.kd,zop,tks,bV,dO,cU,eR,dW,bS,aN,rC,aF (f:=166) rfl,h166,aK he',A126]
  exact⟨_,_,_,_,_,_,_,_,rfl,fun h=>absurd h he'⟩
theorem i30:kE 1 (.ms 2 0 1 3 3) (.int .i64 0)=some (.ptr 2 0)∧kE 1 (.ms 2 0 1 3 3) (.int .i64 1)=some (.ptr 2 1)∧kE 1 (.ms 2 0 1 3 3) (.int .i64 2)=some (.ptr 2 2)∧kE 1 (.ms 3 0 1 2 2) (.int .i64 0)=some (.ptr 3 0)∧kE 1 (.ms 3 0 1 2 2) (.int .i64 1)=some (.ptr 3 1):=⟨rfl,rfl,rfl,rfl,rfl⟩
def afN(us:List Nat)(ec w c:Nat):Nat:=J us (J us ec w) c
set_option maxHeartbeats 1000000 in
theorem c127(n:Nat){ss:List (List UInt8)}{us:List Nat}{d e:D}(h:Lt ss us d e)(ty:Ty){ec w c:Nat}(hec:ec<us.length)(hw:w<us.length)(hc:c<us.length):
  cl (n+10) 127 [.agg [d,e],.int .i64 (ec:Nat),.agg [.int .i64 ty.kind,.int .i64 ty.rank,.int .i64 ty.a0,.int .i64 ty.a1,.int .i64 ty.data,.int .i64 (w:Nat),.int .i64 (c:Nat)]]=some (if tyE us (iG us) ty=0 then e2 (afN us ec w c:Nat) 0 else e2 0 (tyE us (iG us) ty),true):=by
 rw[cN (A:=A127) rfl (n+10) _ rfl,show A127.body=B127 from rfl]
 simp only[B127,Ab.abq];have h62:=c62 n h.d h.e h.u h.s h.c ty;have htk:dH [d,e] 0 (some 2)=some (.agg [d,e]):=rfl;have hx:∀c (hc:c<us.length),us[c]=uM us c:=fun c hc=>(jV hc 0).symm
 have hul:=h.l;have h8:=h.h8;obtain⟨j1,j2⟩:=h.j hec hw;obtain⟨j3,j4⟩:=h.j j2 hc;have k1:=c69 (n+9) h.e (by omega) ec w
 have k2:=c69 (n+9) h.e (by omega) (J us ec w) c
 rw[j1]at k1;rw[j3]at k2;have ld:=h.d.len;have g:∀{k:Nat},k<us.length→decide ((k:Int)<0)=false∧decide ((k:Int)≥(ss.length:Nat))=false∧decide (((ss.length:Nat):Int)≤(k:Nat))=false:=fun hk=>⟨by rw[cE];omega,by rw[cE];omega,by rw[cE];omega⟩
 have hc3:((3:Nat):Int)=3:=rfl;have hc2:((2:Nat):Int)=2:=rfl;simp only[tyC]at h62;by_cases hE:tyE us (iG us) ty=0
 ·rw[aH hE];rw[hE]at h62
  simp only[z0,seval,seval,eB,dI,h.d.nag,h.e.nag,htk,aF (f:=62) rfl,aF (f:=69) rfl,aQ,h.d.fz,h.e.fz,h62,nb,zun,hc3,hc2,i30,show lenD false (.ms 2 0 1 3 3)=some 3 from rfl,show lenD false (.ms 3 0 1 2 2)=some 2 from rfl,ld,(g hec).1,(g hw).1,(g hc).1,(g hec).2.1,(g hw).2.1,(g hc).2.1,(g hec).2.2,(g hw).2.2,(g hc).2.2,show cT .i64 1=1 from rfl,show cT .i64 2=2 from rfl,show cT .i64 3=3 from rfl,dU,cP,AOp.kd,zop,tks,bV,dO,cU,eR,h.e.ia1 hec,h.e.at1 hec,h.e.ia1 hw,h.e.at1 hw,h.e.ia1 hc,h.e.at1 hc,h.e.ia1 j2,h.e.at1 j2,u8C,hx _ hec,hx _ hw,hx _ hc,hx _ j2,iJ (mD h.u ec) (mD h.u w),iJ (mD h.u (J us ec w)) (mD h.u c),k1,k2,A127]
  rfl
 ·rw[aD hE];simp only[z0,seval,h.d.nag,h.e.nag,htk,aF (f:=62) rfl,aQ,h.d.fz,h.e.fz,h62,nb,aK hE,A127];rfl
theorem iU:(∀(cx:Cx) (cl:CL) (dst:Option Nat) (g:Option (Nat×Bool)) (x:AS) (f:Arg) (l:List Arg),zOp cx cl ⟨dst,.callv f l,g⟩ x=kX cx cl dst x (f.ev cx.G x.t) (evs l cx.G x.t)) ∧
  (∀(cx:Cx) (cl:CL) (dst:Option Nat) (x:AS) (f:Nat) (p q args:List D),kX cx cl dst x (.fn (.func f) p q) args=back dst x (cl (.fn f) (p++args++q) x.s x.c)) ∧
  (∀(cx:Cx) (cl:CL) (dst:Option Nat) (g:Option (Nat×Bool)) (x:AS) (a:Arg),zOp cx cl ⟨dst,.pan a,g⟩ x=match a.ev cx.G x.t with | .iface t v=>.ok (.pan [(.iface t v,false)]) x|_=>.no) ∧
  (∀(cx:Cx) (cl:CL) (dst:Option Nat) (g:Option (Nat×Bool)) (f:Nat) (l:List Arg) (t:Tm) (s:St) (c:Nat) (d:List (D×List D)),zOp cx cl ⟨dst,.dfr (.f f) l,g⟩ ⟨t,s,c,d,none⟩ = .ok .normal ⟨iF dst t .un,s,c,(.fn (.func f) [] [],evs l cx.G t)::d,none⟩):=
 ⟨fun _ _ _ _ _ _ _=>rfl,fun _ _ _ _ _ _ _ _=>rfl,fun _ _ _ _ _ _=>rfl,fun _ _ _ _ _ _ _ _ _ _=>rfl⟩
theorem tM(df:Nat→List D→dV→St→Nat→DR)(A:AF)(ch:Ch)(t:Tm)(s:St)(c:Nat)(r:Option Nat):zbody df A (.ok (.pan ch) ⟨t,s,c,[],r⟩) = .ok (.pan ch) s c:=rfl
def jD(a e:Int):Ch:=[(.iface 130 (.agg [.int .i64 a,.int .i64 e]),false)]
theorem eX(n j:Nat)(a e:Int)(s:St)(c:Nat):fn n (j+1) (.fn 41) [.int .i64 a,.int .i64 e] s c=if e=0 then .ok (.ret (.tup [])) s c else .ok (.pan (jD a e)) s c:=by
 rw[iO (A:=A41) rfl rfl rfl rfl n j _ s c rfl,show A41.body=B41 from rfl]
 simp only[B41,Ab.abq];by_cases h:e=0
 ·rw[aH h];subst h;simp only[z2,seval,A41,show decide ((0:Int)≠0)=false from rfl]
 ·rw[aD h];simp only[z2,seval,A41,iU,show decide (e≠0)=true from bH h,tM,jD]
theorem dfn_in{f:Nat}{A:AF}(hT:BX.T f=some A)(n j:Nat)(args:List D)(m:dV)(s:St)(c:Nat)(hl:Nat.beq args.length A.np=true):dfn n (j+1) f args m s c=zdbody A (zS (cxn n) (fn n j) KK A.body (start args s c) m):=by
 show zdef (lw BX ps ms KK MM n) KK (zN (lw BX ps ms KK MM n) KK j) f args m s c=_;unfold zdef;rw[(tU n).1,hT];simp only;rw[hl];rfl
theorem caught_none(n j:Nat)(s:St)(c:Nat):dfn n (j+1) 40 [.ptr 2 0,.ptr 1 0] none s c = .ok (.ret (.tup [])) none s c:=by
 rw[dfn_in (A:=A40) rfl n j _ _ s c rfl];rfl
def zSb(K:AS→dV→RS)(r:RS):RS:=match r with
 | .ok .normal y m=>K y m
 | r=>r
def zSc(v:D)(p q:RS):RS:=match v with
 | .bool r=>bif r then p else q
 | _=>.no
def zSl(id:Nat)(r:RS):RS:=match r with
 | .ok (.exit i) y m=>bif Nat.beq i id then .ok .normal y m else .ok (.exit i) y m
 | r=>r
def zSr(m:dV)(r:R):RS:=match r with
 | .ok o y=>.ok o y m
 | .no=>.no
def zSo(K:AS→RS)(m:dV)(r:R):RS:=match r with
 | .ok .normal y=>K y
 | .ok e y=>.ok e y m
 | .no=>.no
theorem ex_S:(∀(cx:Cx) (cl:CL) (k:Nat) (m:dV) (x:AS) ops,zS cx cl k (.reg none ops) x m=jJ cx cl ops x m)∧(∀(cx:Cx) (cl:CL) (k:Nat) (m:dV) (x:AS) o ops,zS cx cl k (.reg (some o) ops) x m=bif (AC.reg (some o) ops).noRcv then zSr m (zC (.reg (some o) ops) cx cl k x) else .no) ∧
  (∀(cx:Cx) (cl:CL) (k:Nat) (m:dV) (x:AS) a b,zS cx cl k (.seq a b) x m=zSb (zS cx cl k b) (zS cx cl k a x m))∧(∀(cx:Cx) (cl:CL) (k:Nat) (m:dV) (x:AS) v a b,zS cx cl k (.cond v a b) x m=zSc (v.ev cx.G x.t) (zS cx cl k a x m) (zS cx cl k b x m))∧(∀(cx:Cx) (cl:CL) (k:Nat) (m:dV) (x:AS) i a,zS cx cl k (.block i a) x m=zSl i (zS cx cl k a x m)) ∧
  (∀(cx:Cx) (cl:CL) (m:dV) (x:AS),jJ cx cl [] x m = .ok .normal x m)∧(∀(cx:Cx) (cl:CL) (x:AS) n v o r,jJ cx cl (⟨some n,.rcv,none⟩::r) x (some ((v,false)::o))=jJ cx cl r ⟨tput x.t n v,x.s,x.c,x.d,x.r⟩ (some ((v,true)::o))) ∧
  (∀(cx:Cx) (cl:CL) (m:dV) (x:AS) d a r,jJ cx cl (⟨d,.mv a,none⟩::r) x m=zSo (fun y=>jJ cx cl r y m) m (zOp cx cl ⟨d,.mv a,none⟩ x)) ∧
  (∀(cx:Cx) (cl:CL) (m:dV) (x:AS) d a b u v r,jJ cx cl (⟨d,.cmp a b u v,none⟩::r) x m=zSo (fun y=>jJ cx cl r y m) m (zOp cx cl ⟨d,.cmp a b u v,none⟩ x)) ∧
  (∀(cx:Cx) (cl:CL) (m:dV) (x:AS) d a b u v r,jJ cx cl (⟨d,.tas a b u v,none⟩::r) x m=zSo (fun y=>jJ cx cl r y m) m (zOp cx cl ⟨d,.tas a b u v,none⟩ x)) ∧
  (∀(cx:Cx) (cl:CL) (m:dV) (x:AS) d a b r,jJ cx cl (⟨d,.ext a b,none⟩::r) x m=zSo (fun y=>jJ cx cl r y m) m (zOp cx cl ⟨d,.ext a b,none⟩ x)) ∧
  (∀(cx:Cx) (cl:CL) (m:dV) (x:AS) d a b r,jJ cx cl (⟨d,.new a b,none⟩::r) x m=zSo (fun y=>jJ cx cl r y m) m (zOp cx cl ⟨d,.new a b,none⟩ x)) ∧
  (∀(cx:Cx) (cl:CL) (m:dV) (x:AS) d a b u r,jJ cx cl (⟨d,.st a b u,none⟩::r) x m=zSo (fun y=>jJ cx cl r y m) m (zOp cx cl ⟨d,.st a b u,none⟩ x)) ∧
  (∀m K y,zSo K m (.ok .normal y)=K y)∧(∀m K y,zSb K (.ok .normal y m)=K y m)∧(∀p q,zSc (.bool true) p q=p)∧(∀p q,zSc (.bool false) p q=q)∧(∀m i y,zSl i (.ok .normal y m) = .ok .normal y m)∧(∀m o y,zSr m (.ok o y) = .ok o y m):=
 ⟨fun _ _ _ _ _ _=>rfl,fun _ _ _ _ _ _ _=>rfl,fun _ _ _ _ _ _ _=>rfl,fun _ _ _ _ _ _ _ _=>rfl,fun _ _ _ _ _ _ _=>rfl,fun _ _ _ _=>rfl,fun _ _ _ _ _ _ _=>rfl,fun _ _ _ _ _ _ _=>rfl,fun _ _ _ _ _ _ _ _ _ _=>rfl,fun _ _ _ _ _ _ _ _ _ _=>rfl,fun _ _ _ _ _ _ _ _=>rfl,fun _ _ _ _ _ _ _ _=>rfl,fun _ _ _ _ _ _ _ _ _=>rfl,fun _ _ _=>rfl,fun _ _ _=>rfl,fun _ _=>rfl,fun _ _=>rfl,fun _ _ _=>rfl,fun _ _ _=>rfl⟩
theorem caught_some(n j:Nat)(a e x y:Int){k k':Nat}{s:St}{c:Nat}(h1:sget s 1=some (.fix k [.int .i64 x]))(h2:sget s 2=some (.fix k' [.int .i64 y]))(hf:∀m,c≤m→sget s m=none)(hc:3≤c):
  ∃s' c',dfn n (j+1) 40 [.ptr 2 0,.ptr 1 0] (some (jD a e)) s c = .ok (.ret (.tup [])) (some [(.iface 130 (.agg [.int .i64 a,.int .i64 e]),true)]) s' c'∧sget s' 1=some (.fix k [.int .i64 e])∧sget s' 2=some (.fix k' [.int .i64 a]):=by
 rw[dfn_in (A:=A40) rfl n j _ _ s c rfl,show A40.body=B40 from rfl]
 unfold B40 jD;have f1:(1=c)=False:=aL (by omega)
 have f2:(2=c)=False:=aL (by omega)
 have g1:(c=1)=False:=aL (by omega)
 have g2:(c=2)=False:=aL (by omega)
 have hcm:∀d,pI (.ifc true) (.iface 130 d) .nilif=some false:=fun _=>rfl
 simp only[z2,seval,ex_S,f1,f2,g1,g2,h1,h2,hcm,cB,bZ,AC.noRcv,dU,cP,AOp.kd,zop,dR,tks,bV,dO,nb];refine⟨_,_,rfl,?_,?_⟩
 ·simp only[aE];simp
 ·simp only[aE];simp
def mpS:Nat→List (List UInt8)→List (D×D×Nat)
 | _,[]=>[]
 | k,s::r=>(.str s,.bool true,k)::mpS (k+1) r
theorem mpS_snoc:∀(L:List (List UInt8)) (k:Nat) (s:List UInt8),mpS k L++[(.str s,.bool true,k+L.length)]=mpS k (L++[s])
 | [],k,s=>rfl
 | a::L,k,s=>by
  simp only[mpS,cB,aV];rw[show k+(L.length+1)=k+1+L.length by omega,mpS_snoc L (k+1) s]
theorem mfind_mpS(x:List UInt8):∀(L:List (List UInt8)) (k n:Nat),(x∈L∧∃i,mfind .str (.str x) (mpS k L) n=some (some (i,.bool true)))∨(x∉L∧mfind .str (.str x) (mpS k L) n=some none)
 | [],k,n=>.inr ⟨by simp,rfl⟩
 | a::L,k,n=>by
  have h:keyEq .str (.str x) (.str a)=some (decide (x=a)):=by
   show some (x==a)=_;rw[show(x==a)=decide (x=a) from by rw[dA];simp]
  simp only[mpS,mfind,h];by_cases e:x=a
  ·rw[bH e];exact .inl ⟨by simp[e],n,rfl⟩
  ·rw[aK e];rcases mfind_mpS x L (k+1) (n+1) with⟨h1,h2⟩|⟨h1,h2⟩
   ·exact .inl ⟨by simp[h1],h2⟩
   ·exact .inr ⟨by simp[e,h1],h2⟩
def oC(s:List UInt8)(had:List (List UInt8)):Int:=if iQ s=true then(if s∈had then 8 else 0) else 6
theorem fresh_ok(n j:Nat){nm:List UInt8}(hl:nm.length<9223372036854775807){L:List (List UInt8)}{s:St}{c:Nat}(h4:sget s 4=some (.fix 107 [.mp 3]))(h3:sget s 3=some (.mp (mpS 0 L) L.length)):
  fn (n+9) (j+2) (.fn 60) [.str nm,.ptr 4 0] s c=if oC nm L=0 then .ok (.ret (.tup [])) (sset s 3 (.mp (mpS 0 (L++[nm])) (L.length+1))) c else .ok (.pan (jD 0 (oC nm L))) s c:=by
 rw[iO (A:=A60) rfl rfl rfl rfl (n+9) (j+1) _ s c rfl,show A60.body=B60 from rfl]
 unfold B60 oC;have h61:=c61 n nm hl;have hsn:=mpS_snoc L 0 nm;rw[bP]at hsn;cases hb:iQ nm
 ·rw[hb]at h61;simp only[z2,seval,A60,aF (f:=61) rfl,aQ,h61,eX,nb,tM]<;>rfl
 ·rw[hb]at h61;rcases mfind_mpS nm L 0 0 with⟨h1,i,h2⟩|⟨h1,h2⟩
  ·simp only[z2,seval,A60,aF (f:=61) rfl,aQ,h61,eX,nb,h4,h3,h2,aH h1,tM]<;>rfl
  ·simp only[z2,seval,A60,aF (f:=61) rfl,aQ,h61,eX,nb,h4,h3,h2,aD h1,tM,hsn]
def lrC(d e:D)(low pc ec:Nat)(lk:Int)(m v f a:D):List D:=[d,e,.int .i64 1,.int .i64 0,.int .i64 (low:Nat),.int .i64 (low:Nat),.int .i64 (low:Nat),.int .i64 (pc:Nat),.int .i64 (ec:Nat),.int .i64 lk,m,v,f,a]
theorem f133(n j:Nat){ss:List (List UInt8)}{us:List Nat}{d e:D}(h:Lt ss us d e){low pc ec:Nat}{lk:Int}{m v f q:D}{K ty:Nat}{s:St}{c:Nat}(hK:sget s K=some (.fix ty (lrC d e low pc ec lk m v f q))){a b:Nat}(ha:a<us.length)(hb:b<us.length):
  fn (n+1) (j+2) (.fn 133) [.ptr K 0,.int .i64 (a:Nat),.int .i64 (b:Nat)] s c = .ok (.ret (.int .i64 (J us a b:Nat))) s (c+24):=by
 rw[iO (A:=A133) rfl rfl rfl rfl (n+1) (j+1) _ s c rfl,show A133.body=B133 from rfl]
 simp only[B133,Ab.abq];have hul:=h.l;have h8:=h.h8;have hx:∀c (hc:c<us.length),us[c]=uM us c:=fun c hc=>(jV hc 0).symm
 obtain⟨j1,j2⟩:=h.j ha hb;have k1:=c69 n h.e (by omega) a b
 rw[j1]at k1;unfold lrC at hK;simp only[z0,seval,hK,dU,cP,AOp.kd,zop,tks,bV,dO,cU,dR,aV,bU,h.e.ia1 ha,h.e.at1 ha,h.e.ia1 hb,h.e.at1 hb,u8C,hx _ ha,hx _ hb,iJ (mD h.u a) (mD h.u b),aF (f:=69) rfl,aQ,h.e.fz,k1,A133]
def mkL(us:List Nat)(lm:List (Int×Int))(x:Int)(now:Nat):List (Int×Int):=match rR lm x 0 with
 | none=>lm++[(x,(now:Int))]
 | some q=>setM lm q.1 (J us now q.2.toNat:Nat)
def LabN(us:List Nat)(lm:List (Int×Int)):Prop:=∀p∈lm,∃k:Nat,p.2=k∧k<us.length
theorem tQ:∀{l:List (Int×Int)} {x:Int} {n:Nat} {q:Nat×Int},rR l x n=some q→∃p∈l,p.1=x∧p.2=q.2
 | [],_,_,_,h=>by cases h
 | p::r,x,n,q,h=>by
  unfold rR at h;split at h
  ·rename_i e;cases h;exact⟨p,by simp,e.symm,rfl⟩
  ·obtain⟨p',h1,h2⟩:=tQ h;exact⟨p',by simp[h1],h2⟩
set_option maxHeartbeats 1000000 in
theorem f92(n j:Nat){ss:List (List UInt8)}{us:List Nat}{d e:D}(h:Lt ss us d e){low pc ec M:Nat}{lk:Int}{v f q:D}{K ty:Nat}{s:St}{c:Nat}{lm:List (Int×Int)}(hK:sget s K=some (.fix ty (lrC d e low pc ec lk (.mp M) v f q)))(hM:sget s M=some (.mp (mpE 0 lm) lm.length))(hp:pc<us.length)(he:ec<us.length)(hl:LabN us lm)(x:Int):
  ∃c',c≤c'∧fn (n+1) (j+3) (.fn 92) [.ptr K 0,.int .i64 x] s c = .ok (.ret (.tup [])) (sset s M (.mp (mpE 0 (mkL us lm x (J us pc ec))) (mkL us lm x (J us pc ec)).length)) c':=by
 rw[iO (A:=A92) rfl rfl rfl rfl (n+1) (j+2) _ s c rfl,show A92.body=B92 from rfl]
 unfold B92 mkL;obtain⟨j1,j2⟩:=h.j hp he;have hfind:=mfind_mpE x lm 0 0;have hJ:∀{a b c},a<us.length→b<us.length→fn (n+1) (j+2) (.fn 133) [.ptr K 0,.int .i64 (a:Nat),.int .i64 (b:Nat)] s c = .ok (.ret (.int .i64 (J us a b:Nat))) s (c+24):=fun ha hb=>f133 n j h hK ha hb
 cases hq:rR lm x 0 with
 | none=>
  rw[hq]at hfind;have hsn:=mpE_snoc lm 0 (x,(J us pc ec:Nat));rw[bP]at hsn;have hK':=hK;unfold lrC at hK';simp only[z0,seval,hK',hM,dU,cP,AOp.kd,zop,tks,bV,dO,cU,dR,aV,bU,hJ hp he,hfind,Option.map_none,hsn,cB,bZ,dK,A92];exact⟨c+11+24,by omega,rfl⟩
 | some r=>
  rw[hq]at hfind;obtain⟨p',h1,h2,h3⟩:=tQ hq;obtain⟨kh,hkh,hkh2⟩:=hl p' h1;have hq2:r.2=(kh:Int):=by rw[←h3,hkh]
  have hJ2:∀c',fn (n+1) (j+2) (.fn 133) [.ptr K 0,.int .i64 (J us pc ec:Nat),.int .i64 (kh:Nat)] s c' = .ok (.ret (.int .i64 (J us (J us pc ec) kh:Nat))) s (c'+24):=fun c'=>f133 n j h hK j2 hkh2
  have hJ1:∀c',fn (n+1) (j+2) (.fn 133) [.ptr K 0,.int .i64 (pc:Nat),.int .i64 (ec:Nat)] s c' = .ok (.ret (.int .i64 (J us pc ec:Nat))) s (c'+24):=fun c'=>f133 n j h hK hp he
  have hK':=hK;unfold lrC at hK';simp only[hq2]at hfind ⊢;simp only[z0,seval,hK',hM,dU,cP,AOp.kd,zop,tks,bV,dO,cU,dR,aV,bU,hJ1,hJ2,hfind,hq2,bO,cB,bZ,cW,mset_mpE,setM_len,A92];refine⟨_,?_,rfl⟩;omega
structure Aft (s:St) (c:Nat) (s':St) (c':Nat):Prop where
 le:c≤c'
 old:∀m,m<c→sget s' m=sget s m
 free:∀m,c'≤m→sget s' m=none
theorem Aft.refl{s:St}{c:Nat}(h:∀m,c≤m→sget s m=none):Aft s c s c:=⟨aI _,fun _ _=>rfl,h⟩
theorem Aft.add{s s':St}{c c':Nat}(h:Aft s c s' c')(b:Blk):Aft s c (sadd s' c' b) (c'+1):=⟨Nat.le_succ_of_le h.le,fun m hm=>by rw[aX,aD (by have:=h.le;omega)];exact h.old m hm,fun m hm=>by rw[aX,aD (by omega)];exact h.free m (by omega)⟩
theorem Aft.set{s s':St}{c c':Nat}(h:Aft s c s' c'){nm:Nat}(h1:c≤nm)(h2:nm<c')(b:Blk):Aft s c (sset s' nm b) c':=⟨h.le,fun m hm=>by rw[aO,aD (by omega)];exact h.old m hm,fun m hm=>by rw[aO,aD (by omega)];exact h.free m hm⟩
theorem Aft.trans{s s' s2:St}{c c' c2:Nat}(h:Aft s c s' c')(g:Aft s' c' s2 c2):Aft s c s2 c2:=⟨fT h.le g.le,fun m hm=>by rw[g.old m (bX hm h.le),h.old m hm],g.free⟩
def lowC(low:Nat)(k r:Int):D:=.agg [.int .i64 k,.int .i64 r,.int .i64 (low:Nat),.int .i64 (low:Nat),.int .i64 (low:Nat)]
section
variable (n j:Nat) {d e:D} {low pc ec:Nat} {lk:Int} {m v f q:D} {K ty:Nat} {s:St} {c:Nat} (hK:sget s K=some (.fix ty (lrC d e low pc ec lk m v f q))) (hKc:K<c) (hfr:∀m,c≤m→sget s m=none)
include hK hKc hfr
theorem f125(k:Int):∃s' c',fn (n+1) (j+2) (.fn 125) [.ptr K 0,.int .i64 k] s c = .ok (.ret (lowC low k 1)) s' c'∧Aft s c s' c':=by
 rw[iO (A:=A125) rfl rfl rfl rfl (n+1) (j+1) _ s c rfl,show A125.body=B125 from rfl]
 simp only[B125,Ab.abq];unfold lrC at hK;have k0:(K=c)=False:=aL (by omega)
 have k1:(K=c+1)=False:=aL (by omega)
 have k2:(c=c+1)=False:=aL (by omega)
 have k3:(c+1=c)=False:=aL (by omega)
 simp only[z0,seval,hK,k0,k1,k2,k3,dR,A125];exact⟨_,_,rfl,((((((Aft.refl hfr).add _).add _).set (by omega) (by omega) _).set (by omega) (by omega) _).set (by omega) (by omega) _).set (by omega) (by omega) _⟩
theorem f83(x:Nd):∃s' c',fn (n+1) (j+2) (.fn 83) [.ptr K 0,.agg (bW x)] s c = .ok (.ret (lowC low 1 0)) s' c'∧Aft s c s' c':=by
 rw[iO (A:=A83) rfl rfl rfl rfl (n+1) (j+1) _ s c rfl,show A83.body=B83 from rfl]
 simp only[B83,Ab.abq];unfold lrC at hK;have k0:(K=c)=False:=aL (by omega)
 have k1:(K=c+1)=False:=aL (by omega)
 simp only[z0,seval,hK,k0,k1,dR,bW,A83];exact⟨_,_,rfl,(((Aft.refl hfr).add _).add _).set (by omega) (by omega) _⟩
theorem f84(x:Nd):∃s' c',fn (n+1) (j+3) (.fn 84) [.ptr K 0,.agg (bW x)] s c = .ok (.ret (lowC low 1 1)) s' c'∧Aft s c s' c':=by
 rw[iO (A:=A84) rfl rfl rfl rfl (n+1) (j+2) _ s c rfl,show A84.body=B84 from rfl]
 simp only[B84,Ab.abq];have hA:=((Aft.refl hfr).add (.fix 57 (bW x))).add (.fix 37 [.int .i64 0,.int .i64 0,.int .i64 0,.int .i64 0,.int .i64 0]);obtain⟨s',c',h1,h2⟩:=f125 n j (by rw[hA.old K hKc];exact hK) (bX hKc hA.le) hA.free 1
 have h4:sget s' (c+1)=some (.fix 37 [.int .i64 0,.int .i64 0,.int .i64 0,.int .i64 0,.int .i64 0]):=by rw[h2.old (c+1) (by omega)];simp[aE]
 have hle:=h2.le;unfold bW at h1;simp only[z0,seval,bW,h1,h4,lowC,A84];exact⟨_,_,rfl,(hA.trans h2).set (by omega) (by omega) _⟩
theorem f85(x:Nd):∃s' c',fn (n+1) (j+3) (.fn 85) [.ptr K 0,.agg (bW x)] s c = .ok (.ret (lowC low 2 1)) s' c'∧Aft s c s' c':=by
 rw[iO (A:=A85) rfl rfl rfl rfl (n+1) (j+2) _ s c rfl,show A85.body=B85 from rfl]
 simp only[B85,Ab.abq];have hA:=((Aft.refl hfr).add (.fix 57 (bW x))).add (.fix 37 [.int .i64 0,.int .i64 0,.int .i64 0,.int .i64 0,.int .i64 0]);obtain⟨s',c',h1,h2⟩:=f125 n j (by rw[hA.old K hKc];exact hK) (bX hKc hA.le) hA.free 2
 have h4:sget s' (c+1)=some (.fix 37 [.int .i64 0,.int .i64 0,.int .i64 0,.int .i64 0,.int .i64 0]):=by rw[h2.old (c+1) (by omega)];simp[aE]
 have hle:=h2.le;unfold bW at h1;simp only[z0,seval,bW,h1,h4,lowC,A85];exact⟨_,_,rfl,(hA.trans h2).set (by omega) (by omega) _⟩
end
def dQ(l:List Nd):Nat→Nat→Nat
 | 0,_=>0
 | f+1,i=>(kidsL l i).foldl (fun d k=>max d (dQ l f k)) 0+1
theorem xB{α β:Type}{g h:β→α→β}:∀(l:List α) (b:β),(∀a,a∈l→∀b,g b a=h b a)→l.foldl g b=l.foldl h b
 | [],_,_=>rfl
 | a::l,b,H=>by
  rw[List.foldl_cons,List.foldl_cons,H a (bL ..)];exact xB l _ fun x hx=>H x (bJ _ hx)
theorem dQ_fuel{l:List Nd}(hg:jP l):∀(f g i:Nat),i<l.length→eN l i≤l.length→l.length≤f+i→l.length≤g+i→dQ l f i=dQ l g i
 | 0,_,i,h,_,hf,_=>by omega
 | _,0,i,h,_,_,hf=>by omega
 | f+1,g+1,i,h,he,hf,hg'=>by
  rw[dQ,dQ,xB _ _ fun k hk d=>?_]
  obtain⟨h1,h2,h3⟩:=kids_in hg h he k hk;rw[dQ_fuel hg f g k h2 h3 (by omega) (by omega)]
def dN(l:List Nd)(i:Nat):Nat:=dQ l l.length i
theorem dN_eq{l:List Nd}(hg:jP l){i:Nat}(h:i<l.length)(he:eN l i≤l.length):dN l i=(kidsL l i).foldl (fun d k=>max d (dN l k)) 0+1:=by
 unfold dN;rw[dQ_fuel hg l.length (l.length+1) i h he (by omega) (by omega),dQ]
def gE(l:List Nd)(i:Nat):Nat:=min (eN l i) l.length
def gK(l:List Nd)(i:Nat):List Nat:=match l[i]? with
 | none=>[]
 | some x=>if fA x=1 then(if i+1<l.length then[i+1] else[]) else if fA x=2 then(if i+1<l.length then(if gE l (i+1)<l.length then[i+1,gE l (i+1)] else[i+1]) else[]) else[]
theorem gK_eq{l:List Nd}{i:Nat}(h:i<l.length):gK l i=if fA l[i]=1 then(if i+1<l.length then[i+1] else[]) else if fA l[i]=2 then(if i+1<l.length then(if gE l (i+1)<l.length then[i+1,gE l (i+1)] else[i+1]) else[]) else[]:=by rw[gK,aJ h]
theorem gE_gt{l:List Nd}{i:Nat}(h:i<l.length):i<gE l i:=by
 unfold gE;have:=eN_gt (l:=l) (i:=i) (by omega)
 omega
theorem gK_in{l:List Nd}{i k:Nat}(h:k∈gK l i):i<k∧k<l.length:=by
 unfold gK at h;cases hx:l[i]? with
 | none=>rw[hx]at h;cases h
 | some x=>
  rw[hx]at h;simp only at h;split at h
  ·split at h
   ·rw[dJ.1 h];exact⟨by omega,by assumption⟩
   ·cases h
  ·split at h
   ·split at h
    ·rename_i h1;have:=gE_gt h1;split at h
     ·rcases bN.1 h with rfl|h
      ·exact⟨by omega,by assumption⟩
      ·rw[dJ.1 h];exact⟨by omega,by assumption⟩
     ·rw[dJ.1 h];exact⟨by omega,by assumption⟩
    ·cases h
   ·cases h
def gDF(l:List Nd):Nat→Nat→Nat
 | 0,_=>0
 | f+1,i=>(gK l i).foldl (fun d k=>max d (gDF l f k)) 0+1
theorem gDF_fuel{l:List Nd}:∀(f g i:Nat),i<l.length→l.length≤f+i→l.length≤g+i→gDF l f i=gDF l g i
 | 0,_,i,h,hf,_=>by omega
 | _,0,i,h,_,hf=>by omega
 | f+1,g+1,i,h,hf,hg=>by
  rw[gDF,gDF,xB _ _ fun k hk d=>?_]
  obtain⟨h1,h2⟩:=gK_in hk;rw[gDF_fuel f g k h2 (by omega) (by omega)]
def gD(l:List Nd)(i:Nat):Nat:=gDF l l.length i
theorem gD_eq{l:List Nd}{i:Nat}(h:i<l.length):gD l i=(gK l i).foldl (fun d k=>max d (gD l k)) 0+1:=by
 unfold gD;rw[gDF_fuel l.length (l.length+1) i h (by omega) (by omega),gDF]
theorem gD_le{l:List Nd}:∀(f i:Nat),i<l.length→l.length≤f+i→gD l i≤f
 | 0,i,h,hf=>by omega
 | f+1,i,h,hf=>by
  rw[gD_eq h];have:∀(K:List Nat) (d:Nat),d≤f→(∀k∈K,gD l k≤f)→K.foldl (fun d k=>max d (gD l k)) d≤f:=by
   intro K
   induction K with
   | nil=>exact fun d hd _=>hd
   | cons a K ih=>exact fun d hd hk=>ih _ (Nat.max_le.2 ⟨hd,hk a (bL ..)⟩) fun k hk'=>hk k (bJ _ hk')
  have:=this (gK l i) 0 (dD _) fun k hk=>by
   obtain⟨h1,h2⟩:=gK_in hk;exact gD_le f k h2 (by omega)
  omega
theorem gK_kids{l:List Nd}(hg:jP l){i:Nat}(h:i<l.length)(he:eN l i≤l.length):gK l i=kidsL l i:=by
 have hin:=kids_in hg h he;rw[kidsL_eq h]at hin ⊢;rw[gK_eq h];rcases oE (hg.nd i h) with hm|hm|hm<;>rw[hm]at hin ⊢
 ·rfl
 ·have:=hin (i+1) (by simp)
  rw[aH rfl,aH this.2.1];rfl
 ·have h1:=hin (i+1) (by simp)
  have h2:=hin (eN l (i+1)) (by simp)
  have e:gE l (i+1)=eN l (i+1):=by unfold gE;omega
  rw[aD (by decide),aH rfl,aH h1.2.1,e,aH h2.2.1];rfl
theorem gD_dN{l:List Nd}(hg:jP l):∀(f i:Nat),i<l.length→eN l i≤l.length→l.length≤f+i→gD l i=dN l i
 | 0,i,h,_,hf=>by omega
 | f+1,i,h,he,hf=>by
  rw[gD_eq h,dN_eq hg h he,gK_kids hg h he,xB _ _ fun k hk d=>?_]
  obtain⟨h1,h2,h3⟩:=kids_in hg h he k hk;rw[gD_dN hg f k h2 h3 (by omega)]
theorem gE_eq{l:List Nd}(hg:jP l){i:Nat}(h:i<l.length):gE l i=if l[i].kind=3 then i+1+l[i].kids.toNat else if fA l[i]=1 then(if i+1<l.length then gE l (i+1) else i+1) else if fA l[i]=2 then(if i+1<l.length then(if gE l (i+1)<l.length then gE l (gE l (i+1)) else gE l (i+1)) else i+1) else i+1:=by
 have hE:=eN_eq h;have h1:=eN_le hg i;have h2:=eN_le hg (i+1);have h3:=eN_gt (l:=l) (i:=i+1) (by omega)
 have hg1:∀j,gE l j=min (eN l j) l.length:=fun _=>rfl
 by_cases k3:l[i].kind=3
 ·rw[aH k3]at hE ⊢;have:=hg.ls i h k3;rw[hg1,hE];omega
 rw[aD k3]at hE ⊢;by_cases m1:fA l[i]=1
 ·rw[aH m1]at hE ⊢;by_cases hi:i+1<l.length
  ·rw[aH hi,hg1,hg1,hE]
  ·rw[aD hi,hg1,hE,eN_ge (by omega)];omega
 rw[aD m1]at hE ⊢;by_cases m2:fA l[i]=2
 ·rw[aH m2]at hE ⊢;by_cases hi:i+1<l.length
  ·rw[aH hi];by_cases hx:eN l (i+1)<l.length
   ·have e:gE l (i+1)=eN l (i+1):=by rw[hg1];omega
    rw[aH (by omega)]at hE
    rw[e,aH hx,hg1,hg1,hE]
   ·have e:gE l (i+1)=l.length:=by rw[hg1];omega
    rw[e,aD (by omega),hg1,hE]
    split
    ·rw[eN_ge (by omega)];omega
    ·omega
  ·rw[aD hi,hg1,hE,eN_ge (show l.length≤i+1 by omega),aD (by omega)];omega
 ·rw[aD m2]at hE ⊢;rw[hg1,hE];omega
def rg(n:Nat)(f:Nat→D):List D:=(List.range n).map f
theorem rg_len(n:Nat)(f:Nat→D):(rg n f).length=n:=by simp[rg]
theorem uW{n i:Nat}(h:i<n)(f:Nat→D):(rg n f)[i]?=some (f i):=by simp[rg,h]
theorem rg_set(n i:Nat)(f:Nat→D)(v:D):eU (rg n f) i [v]=rg n fun j=>if j=i then v else f j:=by
 show(rg n f).set i v=_;refine List.ext_getElem? fun j=>?_
 unfold rg;rw[List.getElem?_set];by_cases hj:j<n
 ·by_cases hi:i=j
  ·subst hi;simp[hj]
  ·have:¬j=i:=fun h=>hi h.symm
   simp[hj,hi,this]
 ·have:¬(i=j∧j<n):=fun h=>hj h.2
  simp[hj];intro h;omega
theorem rg_congr{n:Nat}{f g:Nat→D}(h:∀j,j<n→f j=g j):rg n f=rg n g:=List.map_congr_left fun j hj=>h j (List.mem_range.1 hj)
theorem rep_rg(n:Nat)(d:D):rep n [d]=rg n fun _=>d:=by
 induction n with
 | zero=>rfl
 | succ n ih => 
  show[d]++rep n [d]=_;rw[ih];unfold rg;rw[List.range_succ_eq_map,bY,List.map_map];rfl
theorem ia_ms{n i:Nat}(h:i<n)(e m:Nat):kE 1 (.ms e 0 1 n m) (.int .i64 (i:Nat))=some (.ptr e i):=by
 unfold kE;simp only[fS h,aB,aN,fF,aU,dI,bP]
def jQ(l:List Nd)(i:Nat):Option D:=match l[i]? with
 | some x=>if kT x=0 then none else some (e2 i (kT x))
 | none=>none
def kI(l:List Nd)(i:Nat):Option D:=match l[i]? with
 | some x=>if x.kind=3∧nR l i x.kids.toNat=false then some (e2 i 6) else none
 | none=>none
def nD(l:List Nd):D:=if l.length<eN l 0 then e2 l.length 6 else if eN l 0<l.length then e2 (eN l 0) 6 else if 24<dN l 0 then e2 0 3 else e2 0 0
def exD(l:List Nd):D:=if l.length=0 then e2 0 6 else if 400<l.length then e2 0 3 else scan (jQ l) (scan (kI l) (nD l) l.length 0) l.length 0
def NdOk(l:List Nd):Prop:=∀x∈l,x.name.length<9223372036854775807∧x.text.length<4294967296
theorem listed_le{l:List Nd}{i k:Nat}(hi:i<l.length)(h:nR l i k=true):i+1+k≤l.length:=by
 cases k with
 | zero=>omega
 | succ k=>
  have:=jA.1 h k (by omega)
  refine Classical.byContradiction fun hc=>?_
  rw[numB_ge (by omega)]at this
  cases this
theorem goodL_of{l:List Nd}(h1:∀j,j<l.length→jQ l j=none)(h2:∀j,j<l.length→kI l j=none):jP l:=by
 have hw:∀i (h:i<l.length),kT l[i]=0:=fun i h=>by
  have:=h1 i h;unfold jQ at this;rw[aJ h]at this;simp only at this;split at this
  ·assumption
  ·cases this
 refine⟨fun i h=>good_of (hw i h),fun i h h3=>listed_le h ?_⟩
 have:=h2 i h;unfold kI at this;rw[aJ h]at this;simp only at this;split at this
 ·cases this
 ·rename_i hn;cases hb:nR l i l[i].kids.toNat
  ·exact absurd ⟨h3,hb⟩ hn
  ·rfl
theorem f121(n j:Nat)(x:Nd)(st:St)(c:Nat):fn n (j+1) (.fn 121) [.agg (bW x)] st c = .ok (.ret (.bool !decide (x.kind=1))) (sadd st c (.fix 57 (bW x))) (c+1):=by
 rw[iO (f:=121) (A:=A121) rfl rfl rfl rfl n j _ _ _ rfl,show A121.body=B121 from rfl]
 unfold B121 bW;simp only[z0,↓reduceIte,Nat.reduceEqDiff,Nat.reduceAdd,Nat.reduceLeDiff,reduceCtorEq,nb,A121]
theorem f120(n j:Nat){l:List Nd}{d:D}(hd:Sl 7 bW l d)(hl:l.length<9223372036854775807){st:St}{c:Nat}:
  ∃(st':St) (c':Nat),fn n (j+4) (.fn 120) [d,.fn (.func 121) [] []] st c = .ok (.ret (.bool !(allN l.length (sM l)))) st' c'∧c≤c'∧(∀x,x<c→sget st' x=sget st x)∧∀m,c'≤m→(∀k,c≤k→sget st k=none)→sget st' m=none:=by
 have main:∃(st':St) (c':Nat),fn n (j+3) (.fn 165) [d,.fn (.func 121) [] []] st c = .ok (.ret (.int .i64 (scan (fun i=>if sM l i=true then none else some (i:Int)) (-1) l.length 0))) st' c'∧c≤c'∧(∀x,x<c→sget st' x=sget st x)∧∀m,c'≤m→(∀k,c≤k→sget st k=none)→sget st' m=none:=by
  rw[iO (f:=165) (A:=A165) rfl rfl rfl rfl n (j+2) _ _ _ rfl,show A165.body=B165 from rfl]
  simp only[B165,Ab.abq];simp only[z0,↓reduceIte,Nat.reduceEqDiff,Nat.reduceAdd,Nat.reduceLeDiff,reduceCtorEq,hd.len];generalize hz:zloop KK _ _=rl
  refine zrange rl hz l.length (fI hl) hl (fun i t s c'=>tget t 0=d∧tget t 1 = .fn (.func 121) [] []∧c≤c'∧(∀x,x<c→sget s x=sget st x)∧(∀m,c'≤m→(∀k,c≤k→sget st k=none)→sget s m=none)∧∀j,j<i→(if sM l j=true then none else some (j:Int))=none) (by decide) (by simp[aE]) (by simp[aE]) (by simp[aE];exact fun m hm hk=>hk m hm) ?_ ?_
  ·rintro i t s c1 hi ⟨q0,q1,hc,hfr,hfree,hn⟩ hti htn;have hrow:=hd.row hi;have hnB:=numB_lt hi;have h121:=f121 n (j+1) l[i] s c1;cases hb:decide (l[i].kind=1)
   ·rw[hb]at hnB h121;simp only[z2,↓reduceIte,Nat.reduceEqDiff,Nat.reduceAdd,Nat.reduceLeDiff,reduceCtorEq,q0,q1,hti,htn,hd.ia hi,hrow,vL,cf_fn,h121,nb,A165];refine⟨_,_,by rw[fX hi (aD (by rw[hnB];decide)) hn],by omega,fun x hx=>by rw[aX,aD (by omega)];exact hfr x hx,fun m hm hk=>by rw[aX,aD (by omega)];exact hfree m (by omega) hk⟩
   ·rw[hb]at hnB h121;simp only[z2,↓reduceIte,Nat.reduceEqDiff,Nat.reduceAdd,Nat.reduceLeDiff,reduceCtorEq,q0,q1,hti,htn,hd.ia hi,hrow,vL,cf_fn,h121,nb];exact⟨trivial,trivial,trivial,.inr (.inr trivial),by decide,by decide,trivial,trivial,by omega,fun x hx=>by rw[aD (by omega)];exact hfr x hx,fun m hm hk=>by rw[aD (by omega)];exact hfree m (by omega) hk,eE hn (aH hnB)⟩
  ·rintro t s c1 ⟨q0,q1,hc,hfr,hfree,hn⟩ hti htn;simp only[z2,↓reduceIte,Nat.reduceEqDiff,Nat.reduceAdd,Nat.reduceLeDiff,reduceCtorEq,q0,q1,hti,htn,A165];exact⟨s,c1,by rw[gN hn],hc,hfr,hfree⟩
 obtain⟨st',c',h165,hc,hfr,hfree⟩:=main;refine⟨st',c',?_,hc,hfr,hfree⟩;rw[iO (f:=120) (A:=A120) rfl rfl rfl rfl n (j+3) _ _ _ rfl,show A120.body=B120 from rfl]
 simp only[B120,Ab.abq];rcases eV (fun i=>if sM l i=true then none else some (i:Int)) (-1) l.length 0 with⟨h1,h2⟩|⟨m,r,_,h2,h3,_,h5⟩
 ·rw[h2]at h165;rw[show allN l.length (sM l)=true from jA.2 fun i hi=>by
   have:=h1 i (by omega) (by omega)
   cases hb:sM l i
   ·rw[hb]at this;cases this
   ·rfl]
  simp only[z2,↓reduceIte,Nat.reduceEqDiff,Nat.reduceAdd,Nat.reduceLeDiff,reduceCtorEq,h165,A120];rfl
 ·rw[h5]at h165;have hb:sM l m=false:=by
   cases hb:sM l m
   ·rfl
   ·rw[hb]at h3;cases h3
  rw[hb]at h3;cases h3;rw[tH (show m<l.length by omega) hb]
  simp only[z2,↓reduceIte,Nat.reduceEqDiff,Nat.reduceAdd,Nat.reduceLeDiff,reduceCtorEq,h165,show decide ((0:Int)≤(m:Int))=true from bH (by omega),A120]
theorem B122_eq:B122=(.seq (.reg none [⟨(some 2),(.new 135 (.c (.agg [.nils,.nils,.nils,.nils]))),none⟩,⟨(some 3),(.mv (.c (.bool false))),none⟩]) (.seq (.reg none [⟨(some 12),(.mv (.t 0)),none⟩,⟨(some 13),(.len false (.t 12)),none⟩,⟨(some 4),(.mv (.t 13)),none⟩]) (.seq (.reg (some [(0,0),(1,0),(2,0),(3,0),(4,0),(5,0),(6,0),(7,0),(8,0),(9,0)]) [⟨(some 14),(.mv (.t 4)),none⟩,⟨(some 15),(.mks 1 8 [(.int .i64 0)] (.t 14) (.t 14)),none⟩,⟨(some 16),(.mv (.t 4)),none⟩,⟨(some 17),(.mks 1 8 [(.int .i64 0)] (.t 16) (.t 16)),none⟩,⟨(some 18),(.mv (.t 4)),none⟩,⟨(some 19),(.mks 1 24 [.nils] (.t 18) (.t 18)),none⟩,⟨(some 20),(.mv (.t 4)),none⟩,⟨(some 21),(.mks 1 1 [(.bool false)] (.t 20) (.t 20)),none⟩,⟨(some 22),(.bld [.nils,.nils,.nils,.nils] [(0,1,(.t 15)),(1,1,(.t 17)),(2,1,(.t 19)),(3,1,(.t 21))]),none⟩,⟨none,(.st 4 (.t 2) (.t 22)),none⟩]) (.seq Y0 Y1)))):=rfl
structure GS (L:Nat) (fE fD fK fN:Nat→D) (s:St):Prop where
 b0:sget s 0=some (.fix 135 [.ms 2 0 1 L L,.ms 4 0 1 L L,.ms 6 0 1 L L,.ms 8 0 1 L L])
 be:sget s 2=some (.fix 0 (rg L fE))
 bd:sget s 4=some (.fix 0 (rg L fD))
 bk:sget s 6=some (.fix 0 (rg L fK))
 bn:sget s 8=some (.fix 0 (rg L fN))
theorem GS.add{L:Nat}{fE fD fK fN:Nat→D}{s s':St}(h:GS L fE fD fK fN s)(hs:∀m,m<11→sget s' m=sget s m):GS L fE fD fK fN s':=
 ⟨by rw[hs 0 (by decide)];exact h.b0,by rw[hs 2 (by decide)];exact h.be,by rw[hs 4 (by decide)];exact h.bd,by rw[hs 6 (by decide)];exact h.bk,by rw[hs 8 (by decide)];exact h.bn⟩
theorem GS.setN{L:Nat}{fE fD fK fN:Nat→D}{s:St}(h:GS L fE fD fK fN s)(g:Nat→D):GS L fE fD fK g (sset s 8 (.fix 0 (rg L g))):=by
 refine⟨?_,?_,?_,?_,?_⟩<;>rw[aO]<;>simp only[Nat.reduceEqDiff,↓reduceIte]
 ·exact h.b0
 ·exact h.be
 ·exact h.bd
 ·exact h.bk
theorem GS.setE{L:Nat}{fE fD fK fN:Nat→D}{s:St}(h:GS L fE fD fK fN s)(g:Nat→D):GS L g fD fK fN (sset s 2 (.fix 0 (rg L g))):=by
 refine⟨?_,?_,?_,?_,?_⟩<;>rw[aO]<;>simp only[Nat.reduceEqDiff,↓reduceIte]
 ·exact h.b0
 ·exact h.bd
 ·exact h.bk
 ·exact h.bn
theorem GS.setD{L:Nat}{fE fD fK fN:Nat→D}{s:St}(h:GS L fE fD fK fN s)(g:Nat→D):GS L fE g fK fN (sset s 4 (.fix 0 (rg L g))):=by
 refine⟨?_,?_,?_,?_,?_⟩<;>rw[aO]<;>simp only[Nat.reduceEqDiff,↓reduceIte]
 ·exact h.b0
 ·exact h.be
 ·exact h.bk
 ·exact h.bn
theorem GS.setK{L:Nat}{fE fD fK fN:Nat→D}{s:St}(h:GS L fE fD fK fN s)(g:Nat→D):GS L fE fD g fN (sset s 6 (.fix 0 (rg L g))):=by
 refine⟨?_,?_,?_,?_,?_⟩<;>rw[aO]<;>simp only[Nat.reduceEqDiff,↓reduceIte]
 ·exact h.b0
 ·exact h.be
 ·exact h.bd
 ·exact h.bn
def lsB(l:List Nd)(q j:Nat):Bool:=match l[q]? with
 | some x=>decide (x.kind=3)&&decide (q<j∧j≤q+x.kids.toNat)
 | none=>false
def nbB(l:List Nd)(i j:Nat):Bool:=(List.range i).any fun q=>lsB l q j
theorem nbB_succ(l:List Nd)(i j:Nat):nbB l (i+1) j=(nbB l i j||lsB l i j):=by simp[nbB,List.range_succ]
def lY(f:Nat→Bool):Nat→D:=fun j=>.bool (f j)
theorem Y0_ok(n:Nat){l:List Nd}{d:D}(hd:Sl 7 bW l d)(hg:jP l)(hl:l.length≤400){fE fD fK:Nat→D}{t:Tm}{s:St}{c:Nat}(hS:GS l.length fE fD fK (lY fun _=>false) s)(hc:11≤c)(hfr:∀m,c≤m→sget s m=none)
  (q0:tget t 0=d) (q2:tget t 2 = .ptr 0 0) (q3:tget t 3 = .bool false) (q4:tget t 4 = .int .i64 (l.length:Nat)) :
  ∃t' s' c',zC Y0 (cxn (n+1)) (fn (n+1) 4096) KK ⟨t,s,c,[],none⟩ = .ok .normal ⟨t',s',c',[],none⟩∧GS l.length fE fD fK (lY (nbB l l.length)) s'∧11≤c'∧(∀m,c'≤m→sget s' m=none)∧tget t' 0=d∧tget t' 2 = .ptr 0 0∧tget t' 3 = .bool false∧tget t' 4 = .int .i64 (l.length:Nat):=by
 simp only[Y0,Ab.abq];simp only[z2,seval,q0,hd.len];generalize hz:zloop KK _ _=rl;refine zrange rl hz l.length (fI (by omega)) (by omega) (fun i t s c=>GS l.length fE fD fK (lY (nbB l i)) s∧11≤c∧(∀m,c≤m→sget s m=none)∧tget t 0=d∧tget t 2 = .ptr 0 0∧tget t 3 = .bool false∧tget t 4 = .int .i64 (l.length:Nat)∧tget t 23=d) (by decide) (by simp[aE]) (by simp[aE])
  ⟨hS,hc,hfr,by simp[aE,q0],by simp[aE,q2],by simp[aE,q3],by simp[aE,q4],by simp[aE]⟩ ?_ ?_
 ·clear q0 q2 q3 q4 hc hfr hS hz;rintro i t s c hi ⟨hS,hc,hfr,q0,q2,q3,q4,q23⟩ hti htn;have hrow:dH (l.map bW).flatten (i*7) (some 7)=some (.agg [.int .i64 l[i].kind,.int .i64 l[i].prim,.int .i64 l[i].kids,.str l[i].name,.str l[i].text,.int .i64 l[i].n,.int .i64 l[i].site]):=hd.row hi;by_cases h3:l[i].kind=3
  ·obtain⟨k0,k4⟩:=(hg.nd i hi).k3 h3;have hls:=hg.ls i hi h3;have w0:cT .i64 ((i:Int)+1)=((i+1:Nat):Int):=kS (by omega)
   have wk:cT .i64 ((i:Int)+l[i].kids)=((i+l[i].kids.toNat:Nat):Int):=by rw[gU (by omega) (by omega)];omega
   have hnb:nbB l (i+1)=fun q=>nbB l i q||decide (i<q∧q≤i+l[i].kids.toNat):=by
    funext j
    rw[nbB_succ,lsB,aJ hi];simp[h3]
   have hb0:(lY fun q=>nbB l i q||decide (i<q∧q≤i+0))=lY (nbB l i):=by
    unfold lY;funext q
    simp only[show decide (i<q∧q≤i+0)=false from aK (by omega),Bool.or_false]
   simp only[z2,seval,q0,q2,q3,q4,q23,hti,htn,hd.ia hi,hrow,bH h3,w0];generalize hz:zloop KK _ _=rl
   refine zwhile rl hz l[i].kids.toNat (fI (by omega)) (fun j z=>∃t s c',z=⟨t,s,c',[],none⟩∧GS l.length fE fD fK (lY fun q=>nbB l i q||decide (i<q∧q≤i+j)) s∧sget s c=some (.fix 57 [.int .i64 l[i].kind,.int .i64 l[i].prim,.int .i64 l[i].kids,.str l[i].name,.str l[i].text,.int .i64 l[i].n,.int .i64 l[i].site])∧c<c'∧(∀m,c'≤m→sget s m=none)∧tget t 0=d∧tget t 2 = .ptr 0 0∧tget t 3 = .bool false∧tget t 4 = .int .i64 (l.length:Nat)∧tget t 23=d∧tget t 24 = .int .i64 (l.length:Nat)∧tget t 25 = .int .i64 (i:Nat)∧tget t 5 = .int .i64 (i:Nat)∧tget t 6 = .ptr c 0∧tget t 7 = .int .i64 ((i+1+j:Nat):Int))
    ⟨_,_,_,rfl,by rw[hb0];exact hS.add fun m hm=>by simp only[aE];rw[aD (by omega),aD (by omega)],by simp[aE],Nat.lt_succ_self c,fun m hm=>by simp only[aE];rw[aD (by omega),aD (by omega)];exact hfr m (by omega),by simp[aE,q0],by simp[aE,q2],by simp[aE,q3],by simp[aE,q4],by simp[aE,q23],by simp[aE,htn],by simp[aE,hti],by simp[aE],by simp[aE],by simp[aE]⟩ ?_
   clear q0 q2 q3 q4 q23 hti htn hS hfr hz;rintro j z hj ⟨t,s,c',rfl,hS,hsc,hc',hfr,q0,q2,q3,q4,q23,q24,q25,q5,q6,q7⟩;have hx0:=hS.b0;have hx8:=hS.bn;by_cases hjk:j<l[i].kids.toNat
   ·have hle:decide (((i+1+j:Nat):Int)≤((i+l[i].kids.toNat:Nat):Int))=true:=dT (by omega)
    have w1:cT .i64 (((i+1+j:Nat):Int)+1)=((i+1+(j+1):Nat):Int):=kS (by omega)
    simp only[z2,seval,q0,q2,q3,q4,q23,q24,q25,q5,q6,q7,hsc,hx0,hx8,wk,w1,hle,ia_ms (show i+1+j<l.length by omega),rg_len,show i+1+j+1≤l.length from by omega]
    have hnx:(rg l.length (lY fun q=>nbB l i q||decide (i<q∧q≤i+j))).set (i+1+j) (.bool true)=rg l.length (lY fun q=>nbB l i q||decide (i<q∧q≤i+(j+1))):=(rg_set _ _ _ _).trans (rg_congr fun q hq=>by
     unfold lY;by_cases e:q=i+1+j
     ·rw[aH e];dsimp only;rw[show decide (i<q∧q≤i+(j+1))=true from bH (by omega),Bool.or_true]
     ·rw[aD e];dsimp only;rw[show decide (i<q∧q≤i+(j+1))=decide (i<q∧q≤i+j) from by rw[decide_eq_decide];omega])
    rw[hnx];exact⟨hjk,_,_,_,rfl,hS.setN _,by rw[aO,aD (by omega)];exact hsc,hc',fun m hm=>by rw[aO,aD (by omega)];exact hfr m hm,by simp[aE,q0],by simp[aE,q2],by simp[aE,q3],by simp[aE,q4],by simp[aE,q23],by simp[aE,q24],by simp[aE,q25],by simp[aE,q5],by simp[aE,q6],by simp[aE]⟩
   ·have hle:decide (((i+1+j:Nat):Int)≤((i+l[i].kids.toNat:Nat):Int))=false:=dF (by omega)
    have:j=l[i].kids.toNat:=by omega
    subst this;simp only[z2,seval,q0,q2,q3,q4,q23,q24,q25,q5,q6,q7,hsc,hx0,hx8,wk,hle];rw[hnb];exact⟨trivial,trivial,trivial,.inr (.inr trivial),by decide,by decide,hS,by omega,hfr,trivial,trivial,trivial,trivial,trivial⟩
  ·have hnb:nbB l (i+1)=nbB l i:=by
    funext j
    rw[nbB_succ,lsB,aJ hi];simp[h3]
   simp only[z2,seval,q0,q2,q3,q4,q23,hti,htn,hd.ia hi,hrow,aK h3];rw[hnb];refine⟨trivial,trivial,trivial,.inr (.inr trivial),by decide,by decide,hS.add fun m hm=>?_,by omega,fun m hm=>?_,trivial,trivial,trivial,trivial,trivial⟩
   ·rw[aO,aD (by omega),aX,aD (by omega)]
   ·rw[aD (by omega),aD (by omega)];exact hfr m (by omega)
 ·rintro t s c ⟨hS,hc,hfr,q0,q2,q3,q4,q23⟩ hti htn;simp only[z2,seval];exact⟨_,_,_,rfl,hS,hc,hfr,by simp[aE,q0],by simp[aE,q2],by simp[aE,q3],by simp[aE,q4]⟩
end
end Zv
