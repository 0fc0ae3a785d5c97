/- Maps, iterators over maps, type assertions: what the model does is what the abstract operations say. Conditions: none. -/
import Derived.Test.YtnpoohbeicakkaaGreatDoorZAD
import Derived.Laws.Externs
import Derived.Lib.Bytealg
import Derived.Lib.AppendZeros
import Derived.Lib.Builder
import Derived.Lib.UnsafeStr
import Derived.Lib.MakeNoZero
import Derived.Defers
import Derived.Recover
set_option linter.unusedSimpArgs false
set_option linter.unusedVariables false
namespace Zv
open Go
def KeyB(td:TypeDesc)(k:ET):Prop:=(td = .bool∧k = .bool)∨(∃i,td = .int i∧k = .int)∨(td = .string∧k = .str)
def KeyA(P:Program)(td:TypeDesc)(k:ET):Prop:=
 ∃len el c,td = .array len el∧P.underlying el=some (.int c)∧cSz P el=some none∧iN P el=some 1∧k = .parts ((List.range len).map fun i=>(i,none,.int))
theorem keyT_kind{P:Program}{t:TypeId}{k:ET}(h:keyT P t=some k):∃td,P.underlying t=some td∧(KeyB td k∨KeyA P td k):=by
 unfold keyT at h;split at h
 ·cases h;exact⟨_,by assumption,.inl (.inl ⟨rfl,rfl⟩)⟩
 ·cases h;exact⟨_,by assumption,.inl (.inr (.inl ⟨_,rfl,rfl⟩))⟩
 ·cases h;exact⟨_,by assumption,.inl (.inr (.inr ⟨rfl,rfl⟩))⟩
 ·rename_i len el hu;split at h
  ·rename_i c h1 h2 h3;cases h;exact⟨_,hu,.inr ⟨_,_,_,rfl,h1,h2,h3,rfl⟩⟩
  ·cases h
 ·cases h
theorem keqs_spec:∀{xs ys:List D} {r:Bool},keqs xs ys=some r→(∀d∈xs,∃k n,d=D.int k n)∧xs.length=ys.length∧(r=true→xs=ys)
 | [],[],r,h=>⟨fun d hd=>(by cases hd),rfl,fun _=>rfl⟩
 | [],_::_,r,h=>by simp[keqs]at h
 | d::xs,[],r,h=>by grind [keqs]
 | d::xs,e::ys,r,h=>by
  cases d<;>cases e<;>simp only[keqs,reduceCtorEq]at h
  rename_i k a j b;split at h
  ·rename_i Vw;subst Vw;split at h
   ·rename_i r' Bk;cases h;obtain⟨g1,g2,g3⟩:=keqs_spec Bk
    grind
   ·cases h
  ·cases h
theorem keqs_eqT(xs ys:List D):∀(m o:Nat) (Tj Um:List D) (r:Bool),xs.drop o=Tj→ys.drop o=Um→Tj.length=m→keqs Tj Um=some r →
  uC ((List.range' o m).map fun i=>(i,none,ET.int)) xs ys=some r
 | 0,o,Tj,Um,r,hx,hy,hl,hk=>by
  grind [uC,keqs]
 | m+1,o,Tj,Um,r,hx,hy,hl,hk=>by
  cases Tj with
  | nil=>cases hl
  | cons d xs''=>cases Um with
   | nil=>grind [keqs]
   | cons e ys''=>
    have h1:xs[o]?=some d:=by rw[←List.head?_drop,hx];rfl
    have h2:ys[o]?=some e:=by rw[←List.head?_drop,hy];rfl
    have h3:xs.drop (o+1)=xs'':=by rw[←List.tail_drop,hx];rfl
    have h4:ys.drop (o+1)=ys'':=by rw[←List.tail_drop,hy];rfl
    simp only[aO,Nat.add_right_cancel_iff]at hl;cases d<;>cases e<;>simp only[keqs,reduceCtorEq]at hk
    rename_i k a j b;split at hk
    ·rename_i Vw;subst Vw;split at hk
     ·rename_i r' Bk;cases hk;have ih:=keqs_eqT xs ys m (o+1) xs'' ys'' r' h3 h4 hl Bk
      grind [List.range'_succ,uC,cX,eqT]
     ·cases hk
    ·cases hk
section
variable {E:Env} {M0:Nat→Prop} {w0:World} {N:Nat} {μ:Mu} {M:Nat→Prop} {a:Act} {w:World} {x:AS}
variable {td:TypeDesc} {i d:D} {v:Value} {P:Program} {t e:TypeId} {o:Operand} {x':AS} {ar:Arg}
theorem ba_beq(p q:List UInt8):((⟨p.toArray⟩:ByteArray)==⟨q.toArray⟩)=(p==q):=by
 show(p.toArray==q.toArray)=_;simp
theorem same_rel{k:ET}(hk:KeyB td k){j:D}{u:Value}{r:Bool}(h:eqT k i j=some r)(hu:aY (Mm M0 μ) w μ i u)(hv:aY (Mm M0 μ) w μ j v):
  Instr.sameNow td u v=some r∧(r=true→i=j∧u=v∧Instr.sameBits 10000 v u=true):=by
 rcases hk with⟨rfl,rfl⟩|⟨c,rfl,rfl⟩|⟨rfl,rfl⟩
 ·unfold eqT at h;split at h
  all_goals first
   | (cases h;done)
   | (rename_i e;cases e;done)
   | skip
  cases h;simp only[aY]at hu hv;subst hu hv;refine⟨rfl,fun e=>?_⟩
  grind [Instr.sameBits]
 ·unfold eqT at h
  grind [aY,Instr.sameNow,Instr.sameBits]
 ·unfold eqT at h
  grind [aY,Instr.sameNow,aD,ba_beq,Instr.sameBits]
theorem keyEq_b{k:ET}(hk:KeyB td k)(a b:D):keyEq k a b=eqT k a b:=by
 rcases hk with⟨_,rfl⟩|⟨_,_,rfl⟩|⟨_,rfl⟩<;>rfl
theorem run_checkKey{k:ET}(hu:P.underlying t=some td)(hk:KeyB td k)(e:Bool)(v:Value)(w:World):
  (Instr.checkKey e 10000 t v).run P w = .ok () w:=by
 rw[show(10000:Nat)=9999+1 from rfl]
 unfold Instr.checkKey;simp only[bJ,bL hu,aR];rcases hk with⟨rfl,rfl⟩|⟨c,rfl,rfl⟩|⟨rfl,rfl⟩<;>rfl
theorem find_rel{td:TypeDesc}{k:ET}(hk:KeyB td k){i:D}{v:Value}(hv:aY (Mm M0 μ) w μ i v):∀{es:List (D×D×Nat)} {ents:List MapEntry} {n:Nat} {r:Option (Nat×D)},MEs (Mm M0 μ) w μ es ents →
  mfind k i es n=some r→(r=none∧Instr.findNow td v ents n=some none) ∨
   ∃j d e kd b,r=some (n+j,d)∧Instr.findNow td v ents n=some (some (n+j,e.val))∧ents[j]?=some e∧es[j]?=some (kd,d,b)∧aY (Mm M0 μ) w μ d e.val∧e.key=v∧Instr.sameBits 10000 e.key v=true
 | [],ents,n,r,h,hm=>by
  simp only[MEs]at h;subst h;unfold mfind at hm;cases Se:keyOk k i<;>rw[Se]at hm<;>cases hm
  exact .inl ⟨rfl,rfl⟩
 | (kd,d,b)::rest,ents,n,r,h,hm=>by
  simp only[MEs]at h;obtain⟨e,r',rfl,h1,h2,h3,h4⟩:=h;unfold mfind at hm;split at hm
  ·rename_i he;cases hm;obtain⟨g1,g2⟩:=same_rel hk ((keyEq_b hk _ _).symm.trans he) hv h1;obtain⟨_,g3,g4⟩:=g2 rfl;refine .inr ⟨0,d,e,kd,b,rfl,?_,rfl,rfl,h2,g3.symm,g4⟩;simp[Instr.findNow,g1]
  ·rename_i he;obtain⟨g1,_⟩:=same_rel hk ((keyEq_b hk _ _).symm.trans he) hv h1;rcases find_rel hk hv h4 hm with⟨q1,q2⟩|⟨j,d',e',kd',b',q1,q2,q3,q4,q5⟩
   ·grind [Instr.findNow]
   ·refine .inr ⟨j+1,d',e',kd',b',by grind,?_,by simpa using q3,by simpa using q4,q5⟩
    grind [Instr.findNow]
  ·cases hm
theorem run_findKey(hu:P.underlying t=some td){ents:List MapEntry}{r:Option (Nat×Value)}(h:Instr.findNow td v ents 0=some r)(w:World):
  (Instr.findKey t v ents).run P w = .ok r w:=by
 simp_all [Instr.findKey,bJ,bL,aR,bV]
theorem arr_eq{el:TypeId}{len:Nat}{c:IntKind}(hu:P.underlying t=some (.array len el))(Gh:P.underlying el=some (.int c))(Fc:cSz P el=some none)(Ae:iN P el=some 1) 
  {i j:D} {u v:Value} {r:Bool} (h:keyEq (.parts ((List.range len).map fun i=>(i,none,.int))) i j=some r) (Qf:aY (Mm M0 μ) w μ i u) (hv:aY (Mm M0 μ) w μ j v) :
  (Op.equal t u v).run P w = .ok r w∧(∃xs,i = .agg xs∧xs.length=len∧∀d∈xs,∃k n,d=D.int k n)∧(r=true→i=j):=by
 unfold keyEq at h;simp only at h;split at h
 ·rename_i xs ys;cases hl:Nat.beq xs.length ((List.range len).map fun i=>(i,(none:Option Nat),ET.int)).length<;>rw[hl]at h
  ·cases h
  have Dx:=bH hl;simp only[dB,List.length_range]at Dx;simp only[bG]at h;obtain⟨g1,g2,g3⟩:=keqs_spec h;have Ms:eT P 19 el=some .int:=by
   rw[show(19:Nat)=18+1 from rfl];unfold eT;rw[Gh]
  have he:eT P 20 t=some (.parts ((List.range len).map fun i=>(i,none,ET.int))):=by
   rw[show(20:Nat)=19+1 from rfl];unfold eT;rw[hu];simp[Fc,Ae,Ms]
  have hq:eqT (.parts ((List.range len).map fun i=>(i,none,ET.int))) (.agg xs) (.agg ys)=some r:=by
   simp only[eqT];rw[List.range_eq_range'];exact keqs_eqT xs ys len 0 xs ys r rfl rfl Dx h
  grind [eqT_rel,Op.equal,Op.maxDepth]
 ·cases h
theorem ints_eq{xs:List D}(hx:∀d∈xs,∃k n,d=D.int k n):∀{us vs:List Value},bI (Mm M0 μ) w μ xs us→bI (Mm M0 μ) w μ xs vs→us=vs∧∀n,(us.zip us).all (fun(x,y)=>Instr.sameBits n x y)=true:=by
 induction xs with
 | nil=>
  simp_all [bI]
 | cons d r ih=>
  intro us vs h1 h2;simp only[bI]at h1 h2;obtain⟨u,ur,rfl,h3,h4⟩:=h1;obtain⟨v,vr,rfl,h5,h6⟩:=h2;obtain⟨k,n,rfl⟩:=hx d cE;simp only[aY]at h3 h5;subst h3 h5;obtain⟨g1,g2⟩:=ih (fun d hd=>hx d (dA _ hd)) h4 h6
  refine⟨by rw[g1],fun m=>?_⟩
  simp only[List.zip_cons_cons,List.all_cons,g2 m,Bool.and_true]
  grind [Instr.sameBits]
theorem agg_same{u:Value}{xs:List D}(e:i = .agg xs)(hx:∀d∈xs,∃k n,d=D.int k n)(h1:aY (Mm M0 μ) w μ i u)(h2:aY (Mm M0 μ) w μ i v):u=v∧Instr.sameBits 10000 u v=true:=by
 subst e;simp only[aY]at h1 h2;obtain⟨us,rfl,h1⟩:=h1;obtain⟨vs,rfl,h2⟩:=h2;obtain⟨g1,g2⟩:=ints_eq hx h1 h2
 simp_all [Array.ext',Instr.sameBits]
theorem find_arr{P:Program}{t el:TypeId}{len:Nat}{c:IntKind}(hu:P.underlying t=some (.array len el))(Gh:P.underlying el=some (.int c))(Fc:cSz P el=some none)(Ae:iN P el=some 1)
  {i:D} {v:Value} (hv:aY (Mm M0 μ) w μ i v):∀{es:List (D×D×Nat)} {ents:List MapEntry} {n:Nat} {r:Option (Nat×D)},MEs (Mm M0 μ) w μ es ents →
  mfind (.parts ((List.range len).map fun i=>(i,none,.int))) i es n=some r→(∃xs,i = .agg xs∧xs.length=len∧∀d∈xs,∃k n,d=D.int k n)∧((r=none∧(Instr.findAsking t v ents n).run P w = .ok none w) ∨
   ∃j d e kd b,r=some (n+j,d)∧(Instr.findAsking t v ents n).run P w = .ok (some (n+j,e.val)) w∧ents[j]?=some e∧es[j]?=some (kd,d,b)∧aY (Mm M0 μ) w μ d e.val∧e.key=v∧Instr.sameBits 10000 e.key v=true)
 | [],ents,n,r,h,hm=>by
  simp only[MEs]at h;subst h;unfold mfind at hm;cases Se:keyOk (.parts ((List.range len).map fun i=>(i,none,.int))) i<;>rw[Se]at hm<;>cases hm
  refine⟨?_,.inl ⟨rfl,rfl⟩⟩;unfold keyOk at Se;simp only at Se;split at Se
  ·rename_i q hq;exact(arr_eq hu Gh Fc Ae hq hv hv).2.1
  ·cases Se
 | (kd,d,b)::rest,ents,n,r,h,hm=>by
  simp only[MEs]at h;obtain⟨e,r',rfl,h1,h2,h3,h4⟩:=h;unfold mfind at hm;split at hm
  ·rename_i he;cases hm;obtain⟨g1,⟨xs,g2,g3,g4⟩,g5⟩:=arr_eq hu Gh Fc Ae he hv h1;have hkv:=agg_same g2 g4 hv (by rw[g5 rfl];exact h1)
   refine⟨⟨xs,g2,g3,g4⟩,.inr ⟨0,d,e,kd,b,rfl,?_,rfl,rfl,h2,hkv.1.symm,by grind⟩⟩
   grind [Instr.findAsking,bJ,aR,bV]
  ·rename_i he;obtain⟨g1,_,_⟩:=arr_eq hu Gh Fc Ae he hv h1;obtain⟨hx,hh⟩:=find_arr hu Gh Fc Ae hv h4 hm;refine⟨hx,?_⟩;rcases hh with⟨q1,q2⟩|⟨j,d',e',kd',b',q1,q2,q3,q4,q5⟩
   ·grind [Instr.findAsking,bJ,aR,cT]
   ·refine .inr ⟨j+1,d',e',kd',b',by grind,?_,by simpa using q3,by simpa using q4,q5⟩
    grind [Instr.findAsking,bJ,aR,cT]
  ·cases hm
theorem run_checkKey_arr{el:TypeId}{len:Nat}{c:IntKind}(hu:P.underlying t=some (.array len el))(Gh:P.underlying el=some (.int c))(Fc:cSz P el=some none)(Ae:iN P el=some 1) 
  {i:D} {v:Value} (hv:aY (Mm M0 μ) w μ i v) {xs:List D} (hi:i = .agg xs) (hl:xs.length=len) (hx:∀d∈xs,∃k n,d=D.int k n) (e:Bool) :
  (Instr.checkKey e 10000 t v).run P w = .ok () w:=by
 subst hi;simp only[aY]at hv;obtain⟨vs,rfl,hr⟩:=hv;obtain⟨ii,bb,h3,h4,h5⟩:=yU Fc;have hbb:bb=false:=by grind
 subst hbb;rw[show(10000:Nat)=9999+1 from rfl]
 unfold Instr.checkKey;simp only[bJ,bL hu,aR,eB Ae];have Bh:∀j,j<len→∃u,(part el vs (j*1)).run P w = .ok u w∧(Instr.checkKey e 9999 el u).run P w = .ok () w:=by
  intro j hj;obtain⟨u,hu1,hu2⟩:=qJ (P:=P) (off:=j*1) (bb:=false) hr h4 Ae (d:=xs[j]'(by omega)) (by grind [cX,aI])
  refine⟨u,hu1,?_⟩;rw[show(9999:Nat)=9998+1 from rfl]
  unfold Instr.checkKey;simp only[bJ,bL Gh,aR];rfl
 simp only[Std.Legacy.Range.forIn_eq_forIn_range',Std.Legacy.Range.size,Nat.sub_zero,Nat.add_sub_cancel,Nat.div_one];have hL:∀j∈List.range' 0 len,j<len:=fun j hj=>by grind
 generalize List.range' 0 len=L at hL
 induction L with
 | nil=>rfl
 | cons j r ih=>
  obtain⟨u,g1,g2⟩:=Bh j (hL j cE);simp only[List.forIn_cons,bJ,g1,g2,aR,bV,eB Ae];exact ih fun j hj=>hL j (dA _ hj)
theorem uA{k:ET}(hu:P.underlying t=some td)(hk:KeyB td k∨KeyA P td k)(hv:aY (Mm M0 μ) w μ i v){es:List (D×D×Nat)}{ents:List MapEntry}{r:Option (Nat×D)} 
  (h:MEs (Mm M0 μ) w μ es ents) (hm:mfind k i es 0=some r):(∀e,(Instr.checkKey e 10000 t v).run P w = .ok () w)∧((r=none∧(Instr.findKey t v ents).run P w = .ok none w) ∨
   ∃j d e kd b,r=some (j,d)∧(Instr.findKey t v ents).run P w = .ok (some (j,e.val)) w∧ents[j]?=some e∧es[j]?=some (kd,d,b)∧aY (Mm M0 μ) w μ d e.val∧e.key=v∧Instr.sameBits 10000 e.key v=true):=by
 rcases hk with hk|⟨len,el,c,rfl,Gh,Fc,Ae,rfl⟩
 ·grind [run_checkKey,find_rel,run_findKey]
 ·obtain⟨⟨xs,g1,g2,g3⟩,hh⟩:=find_arr hu Gh Fc Ae hv h hm;refine⟨fun e=>run_checkKey_arr hu Gh Fc Ae hv g1 g2 g3 e,?_⟩
  have hfk:(Instr.findKey t v ents).run P w=(Instr.findAsking t v ents 0).run P w:=by
   simp only[Instr.findKey,bJ,bL hu,aR];cases ents with
   | nil=>simp[Instr.findNow,Instr.findAsking]
   | cons a b=>simp[Instr.findNow,Instr.sameNow]
  grind
theorem MEs.length:∀{es:List (D×D×Nat)} {ents:List MapEntry},MEs (Mm M0 μ) w μ es ents→ents.length=es.length
 | [],_,h=>by grind [MEs]
 | (k,v,n)::r,_,h=>by
  simp only[MEs]at h;obtain⟨e,r',rfl,_,_,_,h4⟩:=h;simp[MEs.length h4]
theorem MEs.set{d':D}{u key:Value}(hd:aY (Mm M0 μ) w μ d' u):∀{es:List (D×D×Nat)} {ents:List MapEntry} {j:Nat} {e:MapEntry},MEs (Mm M0 μ) w μ es ents→ents[j]?=some e→e.key=key →
  MEs (Mm M0 μ) w μ (mset es j d') (ents.modify j fun e=>{ e with key:=key,val:=u })
 | [],_,j,e,h,he,_=>by grind [MEs]
 | (k,v,n)::r,_,0,e,h,he,Oz=>by
  simp only[MEs]at h;obtain⟨e0,r',rfl,h1,h2,h3,h4⟩:=h;simp only[aV,aD]at he
  grind [mset,MEs,List.modify_zero_cons,aY,Mm]
 | (k,v,n)::r,_,j+1,e,h,he,Oz=>by
  simp only[MEs]at h;obtain⟨e0,r',rfl,h1,h2,h3,h4⟩:=h;simp only[mset,MEs,List.modify_succ_cons];exact⟨_,_,rfl,h1,h2,h3,MEs.set hd h4 (by simpa using he) Oz⟩
theorem MEs.push{kd vd:D}{e:MapEntry}(h1:aY (Mm M0 μ) w μ kd e.key)(h2:aY (Mm M0 μ) w μ vd e.val):∀{es:List (D×D×Nat)} {ents:List MapEntry},MEs (Mm M0 μ) w μ es ents→MEs (Mm M0 μ) w μ (es++[(kd,vd,e.born)]) (ents++[e])
 | [],_,h=>by
  grind [MEs]
 | (k,v,n)::r,_,h=>by
  simp only[MEs]at h;obtain⟨e0,r',rfl,g1,g2,g3,g4⟩:=h;simp only[cA,MEs];exact⟨_,_,rfl,g1,g2,g3,MEs.push h1 h2 g4⟩
theorem MEs.filter{p:D×D×Nat→Bool}{q:MapEntry→Bool}(Tv:∀k v n e,e.born=n→p (k,v,n)=q e):∀{es:List (D×D×Nat)} {ents:List MapEntry},MEs (Mm M0 μ) w μ es ents→MEs (Mm M0 μ) w μ (es.filter p) (ents.filter q)
 | [],_,h=>by grind [MEs]
 | (k,v,n)::r,_,h=>by
  simp only[MEs]at h;obtain⟨e0,r',rfl,g1,g2,g3,g4⟩:=h;have hp:=Tv k v n e0 g3;cases hq:q e0<;>rw[hq]at hp
  ·simp only[List.filter_cons,hp,hq,cT,iV];exact MEs.filter Tv g4
  ·simp only[List.filter_cons,hp,hq,if_true,MEs];exact⟨_,_,rfl,g1,g2,g3,MEs.filter Tv g4⟩
theorem MEs.any{p:D×D×Nat→Bool}{q:MapEntry→Bool}(Tv:∀k v n e,e.born=n→p (k,v,n)=q e):∀{es:List (D×D×Nat)} {ents:List MapEntry},MEs (Mm M0 μ) w μ es ents→es.any p=ents.any q
 | [],_,h=>by grind [MEs]
 | (k,v,n)::r,_,h=>by
  simp only[MEs]at h;obtain⟨e0,r',rfl,g1,g2,g3,g4⟩:=h;simp only[List.any_cons,Tv k v n e0 g3,MEs.any Tv g4]
theorem jP{w:World}{b:Nat}{o:Obj}(h:w.heap[b]?=some o)(hc:∀vs e fz,o≠.cells vs e fz):(getObj b).run P w = .ok o w:=by
 grind [getObj,Sem.run,absurd]
theorem vZ{w:World}{b:Nat}{o o':Obj}(h:w.heap[b]?=some o)(hc:∀vs e fz,o≠.cells vs e fz):(setObj b o').run P w = .ok () { w with heap:=w.heap.setIfInBounds b o' }:=by
 grind [setObj,Sem.run,absurd]
theorem op_mkm(h:Rel E M0 w0 N μ a w x)(hs:step E.G .mkm x=some (d,x')):
  gd E M0 w0 N μ w x a d x' w (do pure (.value (←Instr.makeMap t none))):=by
 simp only[step_mkm,qW,aD,eO]at hs;obtain⟨rfl,rfl⟩:=hs
 let w':World:={ w with heap:=w.heap.push (.map #[] 0) }
 obtain⟨hx,hR,hf⟩:=h.fresh x.c (aK _) (.mp [] 0) (.map #[] 0) 0 (w':=w') (x':=x.add (.mp [] 0)) rfl (fun _=>rfl) (fun n=>aZ _ _ _ _) rfl rfl
  (fun hx hM=>⟨⟨some w.heap.size,0⟩,w.heap.size,#[],by simp[eD],rfl,hM,by simp[w'],by simp[MEs]⟩)
 refine⟨.map (some w.heap.size),w',_,.inl (bU ?_),?_,hR,hf⟩
 ·simp[Instr.makeMap,newObj,Sem.run,w']
 grind [aY,eD]
theorem op_mlk(h:Rel E M0 w0 N μ a w x){k:TypeId}(hu:E.P.underlying t=some (.map k e)){z:D}(hz:iX E.P e=some z){kt:ET}(hk:keyT E.P k=some kt){ok:Bool}{p:Operand}{pr:Arg} 
  (h2:dI o=some ar) (h3:dI p=some pr) {d:D} {x':AS} (hs:step E.G (.mlk z ok kt ar pr) x=some (d,x')) :
  gd E M0 w0 N μ w x a d x' w (do pure (.value (←Instr.lookup t (a.eval o) (a.eval p) ok))):=by
 have hv:=cW h h2;have hp:=cW h h3;generalize a.eval o=v at *;generalize a.eval p=y at *;obtain⟨td,hkd,hK⟩:=keyT_kind hk;simp only[iX,aC,aB]at hz;obtain⟨i,hi,zv,hzv,hz⟩:=hz;have Gc:aY (Mm M0 μ) w μ z zv:=kS _ _ _ hz;have Zw:(zeroValue e).run E.P w = .ok zv w:=by simp[zeroValue,eZ hi,hzv]
 have Db:∀(dd:D) (vv:Value) (b:Bool),aY (Mm M0 μ) w μ dd vv→aY (Mm M0 μ) w μ (bif ok then .tup (zH dd++[.bool b]) else dd) (if ok then .tuple #[vv,.bool b]else vv):=by
  intro dd vv b hd;cases ok
  ·simpa using hd
  ·grind [aY,zH,bI.cons,bI.nil]
 simp only[step_mlk,qV]at hs;split at hs
 ·rename_i he;rw[he]at hv;simp only[aY]at hv;subst hv;split at hs
  ·rename_i r hf;cases hs;obtain⟨hck,q⟩:=uA (w:=w) hkd hK hp (es:=[]) (ents:=[]) (by simp only[MEs]) hf
   have q2:(Instr.findKey k y []).run E.P w = .ok none w:=by
    rcases q with⟨_,q⟩|⟨j,d,e,kd,b,_,_,q3,_⟩
    ·exact q
    ·cases q3
   refine iD.of (v:=if ok then .tuple #[zv,.bool false]else zv) h (bU ?_) (Db _ _ _ Gc)
   simp_all [Instr.lookup,bJ,bL,aR,bV]
  ·cases hs
 ·rename_i nm he;rw[he]at hv;simp only[aY]at hv;obtain⟨l,b,k1,k2,rfl⟩:=hv;split at hs
  ·rename_i es c hg;obtain⟨l',b',ents,g1,g2,g3,g4,g5⟩:=h.st nm _ _ k1 hg;rw[k1]at g1;cases g1;rw[k2]at g2;cases g2;have Eg:(getObj b).run E.P w = .ok (.map ents c) w:=jP g4 (by grind)
   split at hs
   ·rename_i j u hf;cases hs;obtain⟨hck,zX⟩:=uA (w:=w) hkd hK hp g5 hf;rcases zX with⟨q1,q2⟩|⟨j',d',e',kd',b',q1,q2,q3,q4,q5,q6⟩
    ·cases q1
    ·cases q1;refine iD.of (v:=if ok then .tuple #[e'.val,.bool true]else e'.val) h (bU ?_) (Db _ _ _ q5)
     simp only[Instr.lookup,bJ,bL hu,aR,bV,Eg,hck,q2]
   ·rename_i hf;cases hs;obtain⟨hck,zX⟩:=uA (w:=w) hkd hK hp g5 hf;rcases zX with⟨q1,q2⟩|⟨j',d',e',kd',b',q1,q2,q3,q4,q5,q6⟩
    ·refine iD.of (v:=if ok then .tuple #[zv,.bool false]else zv) h (bU ?_) (Db _ _ _ Gc)
     simp only[Instr.lookup,bJ,bL hu,aR,bV,Eg,hck,q2,Zw]
    ·cases q1
   ·cases hs
  ·cases hs
 ·cases hs
theorem op_mup(h:Rel E M0 w0 N μ a w x){k:TypeId}(hu:E.P.underlying t=some (.map k e)){kt:ET}(hk:keyT E.P k=some kt){p q:Operand}{pr qr:Arg} 
  (h2:dI o=some ar) (h3:dI p=some pr) (h4:dI q=some qr) {d:D} {x':AS} (hs:step E.G (.mup kt ar pr qr) x=some (d,x')) :
  gd E M0 w0 N μ w x a d x' w (do Instr.mapUpdate t (a.eval o) (a.eval p) (a.eval q);pure .skip):=by
 have hv:=cW h h2;have hp:=cW h h3;have hq:=cW h h4;generalize a.eval o=v at *;generalize a.eval p=y at *;generalize a.eval q=u at *;obtain⟨td,hkd,hK⟩:=keyT_kind hk;simp only[step_mup,qT]at hs;split at hs
 ·rename_i nm he;rw[he]at hv;simp only[aY]at hv;obtain⟨l,b,k1,k2,rfl⟩:=hv;split at hs
  ·rename_i es c hg;obtain⟨l',b',ents,g1,g2,g3,g4,g5⟩:=h.st nm _ _ k1 hg;rw[k1]at g1;cases g1;rw[k2]at g2;cases g2;have hb:b<w.heap.size:=(h.own nm l b k1 k2).2;have Eg:(getObj b).run E.P w = .ok (.map ents c) w:=jP g4 (by grind)
   have Cm:∀o',(setObj b o').run E.P w = .ok () { w with heap:=w.heap.setIfInBounds b o' }:=fun o'=>vZ g4 (by grind)
   split at hs
   ·rename_i j uu hf;obtain⟨hck,zX⟩:=uA (w:=w) hkd hK hp g5 hf;rcases zX with⟨q1,q2⟩|⟨j',d',e',kd',b',q1,q2,q3,q4,q5,q6,q7⟩
    ·cases q1
    ·simp only[aD,eO,bM]at q1;obtain⟨rfl,rfl⟩:=q1;simp only[aD,eO]at hs;obtain⟨rfl,rfl⟩:=hs
     let w':World:={ w with heap:=w.heap.setIfInBounds b (.map (ents.modify j fun e=>{ e with key:=y,val:=u }) c) }
     obtain⟨hx,hR,Ha⟩:=h.write nm (.mp (mset es j (qr.ev E.G x.t)) c) l b (w':=w') (x':={ x with s:=sset x.s nm (.mp (mset es j (qr.ev E.G x.t)) c) }) k1 k2 (by rw[hg];rfl) (by simp[w'])
      (fun k hk=>by grind) (fun n=>rfl) (fun n=>by rw[aU]) rfl rfl
      (fun hx=>⟨l,b,_,k1,k2,g3,by simp[w',hb];rfl,by
       rw[Array.toList_modify];exact MEs.set (aY.mono hx _ _ (gJ.refl _) hq) (MEs.mono hx (gJ.refl _) g5) (by simpa using q3) q6⟩)
     refine⟨undef,w',μ,.inr ⟨?_,rfl⟩,by simp only[aY],hR,Ha⟩
     have Oz:((ents[j]?).map (·.key)).getD y=y:=by
      rw[←Array.getElem?_toList,q3];simp[q6]
     have Ee:Instr.sameBits 10000 y y=true:=by rw[q6]at q7;exact q7
     simp only[Instr.mapUpdate,bJ,bL hu,aR,Eg,hck,q2,Oz,Instr.keyThatStays,Ee,if_true,bV,Cm,w']
   ·rename_i hf;obtain⟨hck,zX⟩:=uA (w:=w) hkd hK hp g5 hf;rcases zX with⟨q1,q2⟩|⟨j',d',e',kd',b',q1,q2,q3,q4,q5,q6⟩
    ·simp only[aD,eO]at hs;obtain⟨rfl,rfl⟩:=hs
     let w':World:={ w with heap:=w.heap.setIfInBounds b (.map (ents.push { key:=y,val:=u,born:=c }) (c+1)) }
     obtain⟨hx,hR,Ha⟩:=h.write nm (.mp (es++[(pr.ev E.G x.t,qr.ev E.G x.t,c)]) (c+1)) l b (w':=w') (x':={ x with s:=sset x.s nm (.mp (es++[(pr.ev E.G x.t,qr.ev E.G x.t,c)]) (c+1)) }) k1 k2 (by rw[hg];rfl) (by simp[w'])
      (fun k hk=>by grind) (fun n=>rfl) (fun n=>by rw[aU]) rfl rfl
      (fun hx=>⟨l,b,_,k1,k2,g3,by simp[w',hb];rfl,by
       rw[Array.toList_push];exact MEs.push (e:={ key:=y,val:=u,born:=c }) (aY.mono hx _ _ (gJ.refl _) hp) (aY.mono hx _ _ (gJ.refl _) hq) (MEs.mono hx (gJ.refl _) g5)⟩)
     refine⟨undef,w',μ,.inr ⟨?_,rfl⟩,by simp only[aY],hR,Ha⟩
     simp only[Instr.mapUpdate,bJ,bL hu,aR,Eg,hck,q2,bV,Cm,w']
    ·cases q1
   ·cases hs
  ·cases hs
 ·cases hs
theorem op_mln(h:Rel E M0 w0 N μ a w x){k ty:TypeId}(hu:E.P.underlying t=some (.map k e))(h2:dI o=some ar) 
  (hs:step E.G (.mln ar) x=some (d,x')):gd E M0 w0 N μ w x a d x' w (do pure (.value (←Builtin.len_ #[t] ty #[a.eval o]))):=by
 simp only[step_mln,qU]at hs;cases hs
theorem op_rgm(h:Rel E M0 w0 N μ a w x){k:TypeId}(hu:E.P.underlying t=some (.map k e))(h2:dI o=some ar) 
  (hs:step E.G (.rgm ar) x=some (d,x')):gd E M0 w0 N μ w x a d x' w (do pure (.value (←Instr.range t (a.eval o)))):=by
 have hv:=cW h h2;generalize a.eval o=v at *;simp only[step_rgm,qR]at hs;split at hs
 ·rename_i he;rw[he]at hv;simp only[aY]at hv;subst hv;cases hs
  let w':World:={ w with heap:=w.heap.push (.mapIter none 0 #[] 0) }
  obtain⟨hx,hR,hf⟩:=h.fresh x.c (aK _) (.mit none 0 [] 0) (.mapIter none 0 #[] 0) 0 (w':=w') (x':=x.add (.mit none 0 [] 0)) rfl (fun _=>rfl) (fun n=>aZ _ _ _ _) rfl rfl
   (fun hx hM=>⟨⟨some w.heap.size,0⟩,w.heap.size,none,by simp[eD],rfl,hM,by simp[w'],rfl⟩)
  refine⟨.pointer (some ⟨w.heap.size,0,none⟩),w',_,.inl (bU (by simp[Instr.range,bL hu,w',newObj,Sem.run])),?_,hR,hf⟩
  grind [aY,eD]
 ·rename_i nm he;rw[he]at hv;simp only[aY]at hv;obtain⟨l,b,k1,k2,rfl⟩:=hv;split at hs
  ·rename_i es c hg;obtain⟨l',b',ents,g1,g2,g3,g4,g5⟩:=h.st nm _ _ k1 hg;rw[k1]at g1;cases g1;rw[k2]at g2;cases g2;have Eg:(getObj b).run E.P w = .ok (.map ents c) w:=jP g4 (by grind)
   cases hs
   let w':World:={ w with heap:=w.heap.push (.mapIter (some b) c #[] c) }
   obtain⟨hx,hR,hf⟩:=h.fresh x.c (aK _) (.mit (some nm) c [] c) (.mapIter (some b) c #[] c) 0 (w':=w') (x':=x.add (.mit (some nm) c [] c)) rfl (fun _=>rfl) (fun n=>aZ _ _ _ _) rfl rfl
    (fun hx hM=>⟨⟨some w.heap.size,0⟩,w.heap.size,some b,by simp[eD],rfl,hM,by simp[w'],l,b,h.free_le (aK _) _ _ _ k1,k2,rfl⟩)
   refine⟨.pointer (some ⟨w.heap.size,0,none⟩),w',_,.inl (bU ?_),?_,hR,hf⟩
   ·simp only[Instr.range,bJ,bL hu,aR,Eg,bV,newObj,Sem.run,w']
   grind [aY,eD]
  ·cases hs
 ·cases hs
theorem op_nxm(h:Rel E M0 w0 N μ a w x)(h2:dI o=some ar){ty:TypeId} 
  (hs:step E.G (.nxm ar) x=some (d,x')):gd E M0 w0 N μ w x a d x' w (do pure (.value (←Instr.next (a.eval o) false ty))):=by
 have hv:=cW h h2;generalize a.eval o=v at *;simp only[step_nxm,qS]at hs;split at hs
 ·rename_i nm he;rw[he]at hv;simp only[aY]at hv;obtain⟨l,b,k1,k2,rfl⟩:=hv;split at hs
  ·rename_i Ak sn Ap hg;obtain⟨l',b',mo,g1,g2,g3,g4,g5⟩:=h.st nm _ _ k1 hg;rw[k1]at g1;cases g1;rw[k2]at g2;cases g2;simp only at g5;subst g5;cases hs;have Eg:=jP (P:=E.P) g4 (by grind)
   refine iD.of (v:=.tuple #[.bool false]) h (bU ?_) ?_
   ·grind [Instr.next,bJ,aR,bV]
   grind [aY,bI.cons,bI.nil]
  ·rename_i m Ak sn Ap hg;obtain⟨l',b',mo,g1,g2,g3,g4,g5⟩:=h.st nm _ _ k1 hg;rw[k1]at g1;cases g1;rw[k2]at g2;cases g2;obtain⟨lm,bm,m1,m2,rfl⟩:=g5;have Eg:=jP (P:=E.P) g4 (by grind)
   split at hs
   ·rename_i es c Wa;obtain⟨lm',bm',ents,q1,q2,q3,q4,q5⟩:=h.st m _ _ m1 Wa;rw[m1]at q1;cases q1;rw[m2]at q2;cases q2;have Ii:=jP (P:=E.P) q4 (by grind)
    cases zT:(sn.isEmpty||es.isEmpty||es.any (fun e=>Nat.blt e.2.2 Ap))<;>rw[zT]at hs
    ·cases hs
    simp only[bG]at hs;have Jr:ents.isEmpty=es.isEmpty:=by
     have hl:ents.toList.length=es.length:=MEs.length q5;rw[fF];simp only[Array.isEmpty_iff,List.isEmpty_iff,←List.length_eq_zero_iff,←hl];simp
    have Hq:(!sn.toArray.isEmpty && !ents.isEmpty&&ents.all fun x=>decide (x.born≥Ap))=false:=by
     have Mw:es.any (fun e=>Nat.blt e.2.2 Ap)=ents.toList.any (fun e=>Nat.blt e.born Ap):=
      MEs.any (p:=fun e=>Nat.blt e.2.2 Ap) (q:=fun e=>Nat.blt e.born Ap) (fun k v n e hh=>by simp only[hh]) q5
     have Aa:ents.all (fun x=>decide (x.born≥Ap)) = !(ents.toList.any (fun e=>Nat.blt e.born Ap)):=by
      rw[←Array.all_toList,fF];simp[Nat.blt_eq]
     rw[Aa,←Mw,Jr,show sn.toArray.isEmpty=sn.isEmpty by simp]
     revert zT;cases sn.isEmpty<;>cases es.isEmpty<;>cases es.any (fun e=>Nat.blt e.2.2 Ap)<;>simp
    have Ay:=MEs.filter (p:=fun e=>!sn.any (Nat.beq e.2.2)) (q:=fun e=>!sn.toArray.contains e.born) (fun k v n e hh=>by
     subst hh;show(!sn.any (Nat.beq e.born)) = !sn.toArray.contains e.born
     grind [Bool.not_eq_true',List.any_eq_false,Nat.beq_eq,List.elem_eq_mem,cD]) q5
    have Bj:(ents.filter fun e=>!sn.toArray.contains e.born).toList=ents.toList.filter fun e=>!sn.toArray.contains e.born:=by simp
    rw[←Bj]at Ay;generalize Yu:ents.filter (fun e=>!sn.toArray.contains e.born)=left at Ay
    obtain⟨left⟩:=left;simp only at Ay;split at hs
    ·rename_i Mh;rw[Mh]at Ay;simp only[MEs]at Ay;subst Ay;cases hs;refine iD.of (v:=.tuple #[.bool false]) h (bU ?_) ?_
     ·simp only[Instr.next,bJ,Eg,aR,Ii,Hq,cT,iV,Yu,bV];simp[choose,Sem.run,Question.forced]
     grind [aY,bI.cons,bI.nil]
    ·rename_i kd vd bn Ih;rw[Ih]at Ay;simp only[MEs]at Ay;obtain⟨e,r',rfl,r1,r2,r3,rfl⟩:=Ay;cases zQ:Nat.blt bn Ak<;>rw[zQ]at hs
     ·cases hs
     rw[Nat.blt_eq]at zQ;simp only[bG,aD,eO]at hs;obtain⟨rfl,rfl⟩:=hs;have hb:b<w.heap.size:=(h.own nm l b k1 k2).2
     let w':World:={ w with heap:=w.heap.setIfInBounds b (.mapIter (some bm) Ak (sn.toArray.push e.born) c) }
     obtain⟨hx,hR,hf⟩:=h.write nm (.mit (some m) Ak (sn++[bn]) c) l b (w':=w') (x':={ x with s:=sset x.s nm (.mit (some m) Ak (sn++[bn]) c) }) k1 k2 (by rw[hg];rfl) (by simp[w'])
      (fun k hk=>by grind) (fun n=>rfl) (fun n=>by rw[aU]) rfl rfl
      (fun hx=>⟨l,b,some bm,k1,k2,g3,by grind,lm,bm,m1,m2,rfl⟩)
     refine⟨.tuple #[.bool true,e.key,e.val],w',μ,.inl (bU ?_),?_,hR,hf⟩
     ·have Cm:=vZ (P:=E.P) (o':=.mapIter (some bm) Ak (sn.toArray.push e.born) c) g4 (by grind)
      have h1:(#[e].filter fun x=>decide (x.born<Ak)) = #[e]:=by simp[r3,zQ]
      have h2':(#[e].filter fun x=>decide (x.born≥Ak)) = #[]:=by simp[r3];omega
      simp only[Instr.next,bJ,Eg,aR,Ii,Hq,cT,iV,Yu,bV,show(⟨[e]⟩:Array MapEntry) = #[e]from rfl,h1,h2']
      simp only[choose,Sem.run,Question.forced,bJ,bV,Array.isEmpty_eq_false_iff,show(#[e].isEmpty)=false from rfl,cT,iV,Array.append_empty,Array.empty_append,Array.size_map,show(#[e]:Array MapEntry).size=1 from rfl,aK,aQ,if_true,show(#[some e]:Array (Option MapEntry)).size=1 from rfl,List.map_toArray,bS,dU,List.getElem?_toArray,aV,Cm,aR,w']
     ·simp only[aY];exact⟨_,rfl,bI.cons (by simp only[aY]) (bI.cons (aY.mono hx _ _ (gJ.refl _) r1) (bI.cons (aY.mono hx _ _ (gJ.refl _) r2) bI.nil))⟩
    ·cases hs
   ·cases hs
  ·cases hs
 ·cases hs
theorem op_ent(h:Rel E M0 w0 N μ a w x)(h2:dI o=some ar) 
  (hs:step E.G (.ent ar) x=some (d,x')):gd E M0 w0 N μ w x a d x' w (do pure (.value (←Instr.entry (a.eval o)))):=by
 have hv:=cW h h2;generalize a.eval o=v at *;simp only[step_ent,qY]at hs;split at hs
 ·rename_i nm he;rw[he]at hv;simp only[aY]at hv;obtain⟨l,b,k1,k2,rfl⟩:=hv;split at hs
  ·rename_i m Ak sn Ap hg;obtain⟨l',b',mo,g1,g2,g3,g4,g5⟩:=h.st nm _ _ k1 hg;rw[k1]at g1;cases g1;rw[k2]at g2;cases g2;obtain⟨lm,bm,m1,m2,rfl⟩:=g5;have Eg:=jP (P:=E.P) g4 (by grind)
   split at hs
   ·rename_i es c bn Wa Cw;obtain⟨lm',bm',ents,q1,q2,q3,q4,q5⟩:=h.st m _ _ m1 Wa;rw[m1]at q1;cases q1;rw[m2]at q2;cases q2;have Ii:=jP (P:=E.P) q4 (by grind)
    cases zT:Nat.beq c Ap<;>rw[zT]at hs
    ·cases hs
    have Bo:=bH zT;subst Bo;simp only[bG]at hs;have Ay:=MEs.filter (p:=fun e=>Nat.beq e.2.2 bn) (q:=fun e=>e.born==bn) (fun k v n e hh=>by subst hh;rw[fF];simp) q5
    split at hs
    ·rename_i kd vd n0 rest Ih;rw[Ih]at Ay;simp only[MEs]at Ay;obtain⟨e,r',Bk,r1,r2,r3,r4⟩:=Ay;cases hs;refine iD.of (v:=.tuple #[e.key,e.val]) h (bU ?_) ?_
     ·have Gy:ents.find? (·.born==bn)=some e:=by
       rw[←Array.find?_toList,←List.head?_filter,Bk];rfl
      grind [Instr.entry,bJ,aR,bne_self_eq_false,cT,bV]
     grind [aY,bI.cons,bI.nil]
    ·cases hs
   ·cases hs
  ·cases hs
 ·cases hs
theorem op_tas(h:Rel E M0 w0 N μ a w x){s:TypeId}(hu:E.P.underlying t=some td)(hni:∀ms,td≠.interface ms){z:D}(hz:iX E.P t=some z){ok:Bool} 
  (h2:dI o=some ar) {d:D} {x':AS} (hs:step E.G (.tas t z ok ar) x=some (d,x')) :
  gd E M0 w0 N μ w x a d x' w (do pure (.value (←Instr.typeAssert (a.eval o) s t ok))):=by
 have hv:=cW h h2;generalize a.eval o=v at *;simp only[iX,aC,aB]at hz;obtain⟨i,hi,zv,hzv,hz⟩:=hz;have Gc:aY (Mm M0 μ) w μ z zv:=kS _ _ _ hz;have Zw:(zeroValue t).run E.P w = .ok zv w:=by simp[zeroValue,eZ hi,hzv]
 have Dl:aY (Mm M0 μ) w μ (.tup (zH z++[.bool false])) (.tuple #[zv,.bool false]):=by
  simp only[aY,zH];exact⟨_,rfl,bI.cons Gc (bI.cons (by simp only[aY]) bI.nil)⟩
 simp only[step_tas,qQ]at hs;split at hs
 ·rename_i he;rw[he]at hv;simp only[aY]at hv;subst hv;cases ok
  ·cases hs
  ·cases hs;refine iD.of (v:=.tuple #[zv,.bool false]) h (bU ?_) Dl
   simp_all [absurd,Instr.typeAssert,bJ,bL,aR,bV]
 ·rename_i u dd he;rw[he]at hv;simp only[aY]at hv;obtain⟨xv,rfl,hxv⟩:=hv;cases zT:Nat.beq u t<;>rw[zT]at hs
  ·have An:u≠t:=fun e=>by simp_all
   cases ok
   ·cases hs
   ·cases hs;refine iD.of (v:=.tuple #[zv,.bool false]) h (bU ?_) Dl
    simp_all [absurd,Instr.typeAssert,bJ,bL,aR,bV]
  ·have he:=bH zT;subst he;simp only[bG,aD,eO]at hs;obtain⟨rfl,rfl⟩:=hs;refine iD.of (v:=if ok then .tuple #[xv,.bool true]else xv) h (bU ?_) ?_
   ·simp_all [absurd,Instr.typeAssert,bJ,bL,aR,bV]
   grind [aY,zH,bI.cons,bI.nil]
 ·cases hs
end
theorem find_idb{fn:Func}(h:fn.name = "internal/bytealg.IndexByteString"):Extern.find fn=some Extern.BytealgIndexByte.indexByte:=by
 unfold Extern.find;rw[h];kernel_rfl
theorem isRow_run{P:Program}{f:Nat}{name:String}(h:isRow P f name=true){e:Array Value→Sem Value}(he:∀fn:Func,fn.name=name→Extern.find fn=some e)(args:Array Value)(w:World):
  (callFunc f args).run P w=((e args).run P w).andThen fun v w'=>.ok (.value v) w':=by
 grind [isRow,Bool.not_eq_true',Option.isNone_iff_eq_none,run_callFunc_extern]
theorem idxB_eq(c:UInt8):∀l:List UInt8,idxB c l=Lib.indexByte l c
 | []=>rfl
 | b::r=>by
  simp only[idxB,Lib.indexByte,idxB_eq c r];have h1:=Lib.indexByte_ge r c;cases hb:b==c
  ·simp only[cO,cT,iV];rcases hn:Lib.indexByte r c with n|n
   ·have h2:((Int.ofNat n) == -1)=false:=by
     simp only[beq_eq_false_iff_ne,dJ];intro e;cases e
    rw[h2];rfl
   ·rw[hn,Int.negSucc_eq]at h1;have h0:n=0:=by omega
    subst h0;rfl
  ·rfl
section
variable {E:Env} {M0:Nat→Prop} {w0:World} {N:Nat} {μ:Mu} {M:Nat→Prop} {a:Act} {w:World} {x:AS}
variable {P:Program} {o:Oper} {c:Call}
theorem run_builtin0{ρ:Operand→Value}{b:Builtin}(ho:o.op = .call c)(hb:c.callee = .builtin b)(w:World):
  ∃cs,(execOp ρ o).run P w=(builtin b c.argTypes o.type cs (c.args.map ρ)).run P w:=by
 refine⟨c.args.map fun | .const _=>true|_=>false,?_⟩
 grind [execOp,resolve,bJ,bV,aR,invoke]
theorem args_x(h:Rel E M0 w0 N μ a w x){l:Array Operand}{az:List Arg}(hc:mG l=some az):bI (Mm M0 μ) w μ (az.map (·.ev E.G x.t)) (l.map a.eval).toList:=by
 rw[Array.toList_map];exact yY h hc
theorem run_row_op{ρ:Operand→Value}{f:Nat}(ho:o.op = .call c)(hc:c.callee = .value (.func f))(hρ:ρ (.func f) = .func (.func f) #[] #[])(w:World):
  (execOp ρ o).run P w=(callFunc f (c.args.map ρ)).run P w:=by
 simp only[execOp,ho,resolve,hc,hρ,Deferred.ofValue,bJ,bV,aR,invoke,Array.empty_append,Array.append_empty]
theorem vals2{d e:D}{vs:Array Value}(h:bI (Mm M0 μ) w μ [d,e] vs.toList):∃v u,vs = #[v,u]∧aY (Mm M0 μ) w μ d v∧aY (Mm M0 μ) w μ e u:=by
 grind [bI,Array.ext']
theorem look_row(h:Rel E M0 w0 N μ a w x){f:Nat}(ho:o.op = .call c)(hc:c.callee = .value (.func f)){az:List Arg}(hl:mG c.args=some az){k:XL}{name:String}(zW:isRow E.P f name=true) 
  {e:Array Value→Sem Value} (he:∀fn:Func,fn.name=name→Extern.find fn=some e) {d:D} {x':AS} (hs:step E.G (.xl k az) x=some (d,x'))
  (zV:∀l vs,xlook k l x.s=some d→bI (Mm M0 μ) w μ l vs.toList→∃v,(e vs).run E.P w = .ok v w∧aY (Mm M0 μ) w μ d v):gd E M0 w0 N μ w x a d x' w (execOp a.eval o):=by
 simp only[step_xl,xN,aT,eO]at hs;obtain⟨d',hk,rfl,rfl⟩:=hs;obtain⟨v,hr,hv⟩:=zV _ _ hk (args_x h hl);refine iD.of h (v:=v) ?_ hv;rw[run_row_op ho hc rfl,isRow_run zW he,hr];rfl
theorem xl_idb{l:List D}{s:St}{d:D}{vs:Array Value}(hk:xlook .idb l s=some d)(hv:bI (Mm M0 μ) w μ l vs.toList):
  ∃v,(Extern.BytealgIndexByte.indexByte vs).run P w = .ok v w∧aY (Mm M0 μ) w μ d v:=by
 unfold xlook at hk;split at hk
 all_goals try contradiction
 cases hk;obtain⟨v,u,rfl,g1,g2⟩:=vals2 hv
 simp_all [aY,Lib.run_indexByteString,idxB_eq]
theorem row_sound(h:Rel E M0 w0 N μ a w x){f:Nat}(ho:o.op = .call c)(Aw:c.callee = .value (.func f)){ao:AOp}(hc:cRow E.P f c.args=some ao){d:D}{x':AS}(hs:step E.G ao x=some (d,x')):
  gd E M0 w0 N μ w x a d x' w (execOp a.eval o):=by
 unfold cRow at hc;cases h1:isRow E.P f "internal/bytealg.IndexByteString"<;>rw[h1]at hc
 rotate_left
 ·simp only[bG,aT]at hc;obtain⟨az,hl,rfl⟩:=hc;exact look_row h ho Aw hl h1 (fun fn=>find_idb) hs fun l vs hk hv=>xl_idb hk hv
 ·cases hc
theorem ext_sound(h:Rel E M0 w0 N μ a w x){ao:AOp}(hc:cExt E.P o=some ao){d:D}{x':AS}(hs:step E.G ao x=some (d,x')):
  gd E M0 w0 N μ w x a d x' w (execOp a.eval o):=by
 grind [cExt,row_sound]
end
theorem cExt_kind{P:Program}{o:Oper}{op:AOp}(h:cExt P o=some op):((∃k l,op = .xl k l)∨∃k l,op = .xa k l)∧∀c,o.op≠.defer c:=by
 grind [cExt,cRow,aT]
section
variable {E:Env} {M0:Nat→Prop} {w0:World} {N:Nat} {μ:Mu} {M:Nat→Prop} {a:Act} {w:World} {x:AS}
theorem op_builtin(h:Rel E M0 w0 N μ a w x){o:Oper}{c:Call}{b:Builtin}(ho:o.op = .call c)(hb:c.callee = .builtin b){ao:AOp}(hc:yW E.P o=some ao){d:D}{x':AS}
  (hs:step E.G ao x=some (d,x')):gd E M0 w0 N μ w x a d x' w (execOp a.eval o):=by
 unfold gd;obtain⟨cs,hrb⟩:=run_builtin0 (P:=E.P) (ρ:=a.eval) ho hb w;rw[hrb];clear hrb;simp only[yW,ho,hb]at hc;obtain⟨callee,args,ats⟩:=c;obtain⟨args⟩:=args;obtain⟨ats⟩:=ats;simp only at hb hc ⊢;have hm:(⟨args⟩:Array Operand).map a.eval=⟨args.map a.eval⟩:=by apply Array.ext';simp
 rw[hm];clear hm ho;subst hb;split at hc
 · -- len
  rename_i y t;split at hc
  ·rename_i hu;simp only[aC,aB,aD]at hc;obtain⟨ar,h2,rfl⟩:=hc;exact op_len (ty:=o.type) h h2 (by simpa using hu) hs
  ·rename_i e hu;simp only[aC,aB,aD]at hc;obtain⟨ar,h2,rfl⟩:=hc;exact op_len (ty:=o.type) h h2 (by grind) hs
  ·rename_i n e hu;simp only[aD]at hc;subst hc;simp only[stq,Arg.ev,aD,eO]at hs;obtain⟨rfl,rfl⟩:=hs;exact iD.of (v:=.int .i64 n) h (bU (by simp[Builtin.len_,bL hu,goInt])) (by show aY _ _ _ (.int .i64 n) _;simp only[aY])
  ·rename_i k e hu;simp only[aC,aB,aD]at hc;obtain⟨ar,h2,rfl⟩:=hc;exact op_mln (ty:=o.type) h hu h2 hs
  ·cases hc
 · -- cap
  rename_i y t;split at hc
  ·rename_i e hu;simp only[aC,aB,aD]at hc;obtain⟨ar,h2,rfl⟩:=hc;exact op_cap (ty:=o.type) h hu h2 hs
  ·cases hc
 · -- append
  rename_i y z t u;split at hc
  ·rename_i e e' hu Qf;simp only[aC,aB]at hc;obtain⟨i,hi,j,hj,zv,hz,ar,h2,pr,h3,hc⟩:=hc;cases zT:(Nat.beq i.size j.size && !Nat.beq i.size 0&&Nat.beq zv.cells.size i.size)
   ·grind
   rw[zT]at hc;simp only[bW,Bool.not_eq_true']at zT;simp only[bG,aD]at hc;subst hc;exact op_app h ⟨hu,.inl ⟨e',Qf⟩,hi,hz,bH zT.2⟩ zT.1.2 h2 h3 hs o.type
  ·rename_i e hu Qf;simp only[aC,aB]at hc;obtain⟨i,hi,zv,hz,ar,h2,pr,h3,hc⟩:=hc;cases zT:(Nat.beq i.size 1&&Nat.beq zv.cells.size 1)<;>rw[zT]at hc
   ·cases hc
   simp only[bW]at zT;have e1:=bH zT.1;have e2:=bH zT.2;simp only[bG,aD]at hc;subst hc;exact op_app h ⟨hu,.inr Qf,hi,hz,by omega⟩ (by rw[e1];rfl) h2 h3 hs o.type
  ·cases hc
 · -- copy
  rename_i y z t u;split at hc
  ·rename_i e e' hu Qf;simp only[aC,aB]at hc;obtain⟨i,hi,j,hj,ar,h2,pr,h3,hc⟩:=hc;cases zT:(Nat.beq i.size j.size)<;>rw[zT]at hc
   ·cases hc
   simp only[bG,aD]at hc;subst hc;exact op_copy (ty:=o.type) h hu (by simp[iN,hi]) h2 h3 hs
  ·rename_i e hu Qf;simp only[aC,aB]at hc;obtain⟨i,hi,ar,h2,pr,h3,hc⟩:=hc;cases zT:(Nat.beq i.size 1)<;>rw[zT]at hc
   ·cases hc
   have e1:=bH zT;simp only[bG,aD]at hc;subst hc;exact op_copy (ty:=o.type) h hu (by grind [iN]) h2 h3 hs
  ·cases hc
 · -- min
  simp only[aC,aB,aD]at hc;obtain⟨ar,h2,pr,h3,rfl⟩:=hc;exact op_mm (mx:=false) (ts:=⟨ats⟩) (ty:=o.type) h h2 h3 hs
 · -- max
  simp only[aC,aB,aD]at hc;obtain⟨ar,h2,pr,h3,rfl⟩:=hc;exact op_mm (mx:=true) (ts:=⟨ats⟩) (ty:=o.type) h h2 h3 hs
 all_goals grind [step_rcv,reduceCtorEq]
theorem op_sound0(h:Rel E M0 w0 N μ a w x){o:Oper}{ao:AOp}(hc:yW E.P o=some ao){d:D}{x':AS}(hs:step E.G ao x=some (d,x')):
  gd E M0 w0 N μ w x a d x' w (execOp a.eval o):=by
 have Wi:∀op,o.op=op→gd E M0 w0 N μ w x a d x' w (execOp a.eval o):=by
  intro op ho;have Bw:=hc;simp only[yW,ho]at hc;cases op<;>(try simp only[reduceCtorEq]at hc)
  case move y=>
   grind [aC,aB,aD,execOp,op_mv]
  case assign y=>
   grind [aC,aB,aD,execOp,op_mv]
  case pick c p q=>
   simp only[aC,aB,aD]at hc
   grind [execOp,op_pick]
  case alloc t=>
   simp only[aC,aB,aD]at hc;obtain⟨zd,hz,rfl⟩:=hc;simp only[iX,aC,aB]at hz;obtain⟨i,hi,v,hv,hz⟩:=hz;simp only[execOp,ho];refine op_new (v:=v) (e:=t) h (by simp only[Arg.ev];exact kS _ _ _ hz) hs ?_
   simp[Instr.alloc,zeroValue,eZ hi,hv,newVar,newRow]
  case box t y=>
   simp only[aC,aB,aD]at hc;obtain⟨ar,h2,rfl⟩:=hc;simp only[execOp,ho];refine op_new (v:=a.eval y) (e:=t) h (cW h h2) hs ?_;simp[Instr.box,newVar,newRow]
  case build t ps=>
   simp only[aC,aB]at hc;obtain⟨zd,hz,cells,Bo,hc⟩:=hc;simp only[execOp,ho];split at hc
   ·rename_i fs hu;simp only[aB]at hc;obtain⟨l,hl,hc⟩:=hc;cases Aa:(fs.all fun f=>(E.P.info? f.type).isSome)<;>rw[Aa]at hc
    ·cases hc
    simp only[bG,aD]at hc;subst hc;exact op_bld_struct h hz Bo hu hl Aa hs
   all_goals grind [aB,aD,op_bld_array]
  case buildSlice t len ps=>
   simp only[execOp,ho];split at hc
   ·rename_i e hu;simp only[aC,aB]at hc
    grind [Nat.ble,Nat.beq,aD,op_bsl]
   ·cases hc
  case load t y=>
   grind [aC,aB,aD,execOp,op_ld]
  case store t y v=>
   grind [aC,aB,aD,execOp,op_st]
  case nilCheck y=>
   grind [aC,aB,aD,op_nilc]
  case binOp op t y z t'=>
   simp only[execOp,ho];cases hn:isNumT E.P t<;>rw[hn]at hc
   ·simp only[cO]at hc;cases op<;>simp only[reduceCtorEq]at hc
    all_goals grind [aC,aB,aD,op_cmp]
   grind [aC,aB,aD,op_bin]
  case unOp op t y=>
   grind [aC,aB,aD,execOp,op_un]
  case convert s t y=>
   simp only[execOp,ho];split at hc
   ·grind [aC,aB,aD,op_cvI]
   all_goals grind [aC,aB,aD,op_cvN,op_cvB,op_cvS]
  case makeInterface t y=>
   grind [execOp,aC,aB,aD,op_mkif]
  case makeFunc f p q=>
   grind [aC,aB,aD,execOp,op_mkfn]
  case makeSlice t l c=>
   simp only[execOp,ho];split at hc
   ·rename_i e hu;simp only[aC,aB]at hc
    grind [Nat.beq,aD,op_mks]
   ·cases hc
  case slice t y l hi m=>
   simp only[execOp,ho];split at hc
   ·grind [aC,aB,aD,op_slS]
   ·rename_i e hu;simp only[aC,aB]at hc;obtain⟨s,Ae,hc⟩:=hc;split at hc
    ·cases hc
    ·rename_i Dl;simp only[aB,aD]at hc;obtain⟨ar,h2,l',hl,h',hh,m',hm,rfl⟩:=hc;refine op_slV h hu Ae h2 hl hh hm ?_ hs;rintro⟨rfl,Ei⟩;have e1:=mA hh;cases m with
     | none=>grind
     | some m=>grind
   ·rename_i n e hu;simp only[aC,aB]at hc;obtain⟨s,Ae,hc⟩:=hc;split at hc
    ·cases hc
    ·rename_i Dl;simp only[aB,aD]at hc;obtain⟨ar,h2,l',hl,h',hh,m',hm,rfl⟩:=hc;refine op_slA h hu Ae h2 hl hh hm ?_ hs;rintro⟨rfl,Ei⟩;have e1:=mA hh;cases m with
     | none=>grind
     | some m=>grind
   ·cases hc
  case fieldAddr t y i=>
   simp only[execOp,ho];split at hc
   all_goals grind [aC,aB,Nat.beq,aD,op_fa]
  case field t y i=>
   simp only[execOp,ho];split at hc
   all_goals grind [aC,aB,aD,op_fld]
  case indexAddr t y i=>
   simp only[execOp,ho];split at hc
   all_goals grind [aC,aB,aD,op_iaA,op_iaS]
  case index t y i=>
   simp only[execOp,ho];split at hc
   ·rename_i n e hu;simp only[aC,aB,aD]at hc
    grind [op_ixA]
   all_goals grind [aC,aB,aD,op_ixS]
  case range t y=>
   grind [execOp,aC,aB,aD,op_rng,op_rgm]
  case next y s=>
   grind [execOp,aC,aB,aD,op_nxm,op_next]
  case extract y i=>
   grind [aC,aB,aD,execOp,op_ext]
  case call c=>
   cases Aw:c.callee with
   | builtin b=>grind [op_builtin]
   | value f=>
    rw[Aw]at hc;cases f with
    | func f=>
     simp only[aC,aB]at hc;obtain⟨fn,Dz,az,_,hc⟩:=hc;cases zT:(fn.name == "runtime.NumGoroutine" || fn.body.isNone)<;>rw[zT]at hc
     ·simp only[cO,aD]at hc;subst hc
      simp_all
     ·cases hc
    | _=>
     simp only[aC,aB,aD]at hc;obtain⟨ar,_,az,_,rfl⟩:=hc
     simp_all
   | invoke r m=>
    grind [aC,aB,aD,step_inv,reduceCtorEq]
  case panic y=>
   grind [aC,aB,aD,step_pan,reduceCtorEq]
  case defer c=>
   grind [aC,aB,aD,step_dfr,reduceCtorEq]
  case makeMap t r=>
   grind [aD,execOp,op_mkm,reduceCtorEq]
  case lookup t y i ok=>
   split at hc
   ·rename_i k e hu;simp only[aC,aB,aD]at hc
    grind [execOp,op_mlk]
   ·cases hc
  case mapUpdate t y i v=>
   split at hc
   ·rename_i k e hu;simp only[aC,aB,aD]at hc
    grind [execOp,op_mup]
   ·cases hc
  case insert t y i v=>
   split at hc
   ·rename_i k e hu;simp only[aC,aB,aD]at hc
    grind [execOp,op_mup]
   ·cases hc
  case entry y=>
   grind [aC,aB,aD,execOp,op_ent]
  case typeAssert y s t ok=>
   grind [aC,aB,aD,execOp,op_tas]
 grind
theorem op_sound(h:Rel E M0 w0 N μ a w x){o:Oper}{ao:AOp}(hc:cOp E.P o=some ao){d:D}{x':AS}(hs:step E.G ao x=some (d,x')):
  gd E M0 w0 N μ w x a d x' w (execOp a.eval o):=by
 grind [cOp,ext_sound,op_sound0]
end
def fat(b:Frame)(a:Act)(todo:List Item):Frame:={ b with tmps:=a.tmps,defers:=a.defers,todo:=todo,mode:=.run }
theorem fat_eval(b:Frame)(a:Act)(todo:List Item):(fat b a todo).eval=a.eval:=by
 funext x;cases x<;>rfl
theorem nH(b:Frame)(a:Act)(ops:Array Oper)(i:Nat)(rest:List Nat)(k:List Item)(v:Value):
  (fat b a (.inRegion ops (i::rest)::k)).finish v=fat b (a.put ((ops[i]?).bind (·.dst)) v) (.inRegion ops rest::k):=by
 grind [bind,Frame.finish,fat,Act.put]
theorem fat_raise(b:Frame)(a:Act)(todo:List Item)(Aj:List PanicEntry):(fat b a todo).raise Aj={ fat b a todo with mode:=.panicking Aj }:=rfl
section
variable {P:Program} {b:Frame} {a:Act} {k:List Item} {cs:List Frame} {w:World}
variable {c:Code}
theorem fstep_skip:Go.step P (lone (fat b a (.code .skip::k)) cs w) = .next (lone (fat b a k) cs w):=dK (by simp[stepG,stepG.exec,fat])
theorem fstep_label{l:Nat}:Go.step P (lone (fat b a (.code (.label l)::k)) cs w) = .next (lone (fat b a k) cs w):=dK (by simp[stepG,stepG.exec,fat])
theorem vR{id:Nat}:Go.step P (lone (fat b a (.inBlock id::k)) cs w) = .next (lone (fat b a k) cs w):=dK (by simp[stepG,stepG.exec,fat])
theorem qA:Go.step P (lone (fat b a (.inScope c::k)) cs w) = .next (lone (fat b a k) cs w):=dK (by simp[stepG,stepG.exec,fat])
theorem fstep_seq{x y:Code}:Go.step P (lone (fat b a (.code (.seq x y)::k)) cs w) = .next (lone (fat b a (.code x :: .code y::k)) cs w):=dK (by simp[stepG,stepG.exec,fat])
theorem wF{c:Operand}{x y:Code}{t:Bool}(h:a.eval c = .bool t):
  Go.step P (lone (fat b a (.code (.cond c x y)::k)) cs w) = .next (lone (fat b a (.code (if t then x else y)::k)) cs w):=
 dK (by
  have:=congrFun (fat_eval b a (.code (.cond c x y)::k)) c
  simp_all [fat,stepG,stepG.exec])
theorem fstep_block{id:Nat}:Go.step P (lone (fat b a (.code (.block id c)::k)) cs w) = .next (lone (fat b a (.code c :: .inBlock id::k)) cs w):=dK (by simp[stepG,stepG.exec,fat])
theorem fstep_loop:Go.step P (lone (fat b a (.code (.loop c)::k)) cs w) = .next (lone (fat b a (.code c :: .inLoop c::k)) cs w):=dK (by simp[stepG,stepG.exec,fat])
theorem yI:Go.step P (lone (fat b a (.inLoop c::k)) cs w) = .next (lone (fat b a (.code c :: .inLoop c::k)) cs w):=dK (by simp[stepG,stepG.exec,fat])
theorem tX:Go.step P (lone (fat b a (.code (.scope c)::k)) cs w) = .next (lone (fat b a (.code c :: .inScope c::k)) cs w):=dK (by simp[stepG,stepG.exec,fat])
theorem wE{id:Nat}{k':List Item}(h:iE id k=some k'):Go.step P (lone (fat b a (.code (tT id)::k)) cs w) = .next (lone (fat b a k') cs w):=by
 unfold iE at h;unfold tT;cases hp:Nat.beq (id % 2) 0<;>rw[hp]at h
 ·simp only[cO]at h ⊢;exact dK (by simp[stepG,stepG.exec,fat,h])
 ·simp only[bG]at h ⊢;exact dK (by simp[stepG,stepG.exec,fat,h])
theorem fstep_ret(hr:b.roundOf=none):Go.step P (lone (fat b a (.code .ret::k)) cs w) = .next (lone { fat b a (.code .ret::k) with mode:=.returning } cs w):=
 dK (by simp[stepG,stepG.exec,fat,hr])
theorem fstep_end(hr:b.roundOf=none):Go.step P (lone (fat b a []) cs w) = .next (lone { fat b a []with mode:=.returning } cs w):=
 dK (by simp[stepG,stepG.exec,fat,hr])
variable {ops:Array Oper}
theorem rM{id:Nat}:Go.step P (lone (fat b a (.code (.region id ops false)::k)) cs w) = .next (lone (fat b a (.inRegion ops (List.range ops.size)::k)) cs w):=
 dK (by simp[stepG,stepG.exec,fat])
theorem yH{id:Nat}:Go.step P (lone (fat b a (.code (.region id ops true)::k)) cs w) =
   .next (lone (fat b a (.inRegion ops (Region.schedule (P.follows .mixedOrders) ops (w.tape w.drawn (.order b.fn id)))::k)) cs { w with drawn:=w.drawn+1 }):=
 dK (by simp[stepG,stepG.exec,fat,choose,Sem.run,Question.forced,Question.cut])
theorem lI:Go.step P (lone (fat b a (.inRegion ops []::k)) cs w) = .next (lone (fat b a k) cs w):=dK (by simp[stepG,stepG.exec,fat])
theorem lT{i:Nat}{rest:List Nat}(h:((ops[i]?).map (Region.wanted · (yielded ops a.tmps))).getD false=false):
  Go.step P (lone (fat b a (.inRegion ops (i::rest)::k)) cs w) = .next (lone (fat b (a.put ((ops[i]?).bind (·.dst)) undef) (.inRegion ops rest::k)) cs w):=by
 rw[←nH];exact dK (by
  simp_all [fat,stepG,stepG.exec])
theorem mE{i:Nat}{rest:List Nat}{o:Oper}(ho:ops[i]?=some o)(hw:Region.wanted o (yielded ops a.tmps)=true)(hd:b.roundOf=none∨∀c,o.op≠.defer c):
  stepG P true { frame:=fat b a (.inRegion ops (i::rest)::k),callers:=cs,status:=.running,dying:=none } w =
   stepG.apply P true (fat b a (.inRegion ops (i::rest)::k)) cs none (execOp a.eval o) w:=by
 have he:=fat_eval b a (.inRegion ops (i::rest)::k);simp only[fat]at he;rcases hd with hd|hd
 ·grind [stepG,stepG.exec,stepG.oper,Frame.oper?,fat]
 ·have hm:stepG.oper P true (fat b a (.inRegion ops (i::rest)::k)) cs none w=stepG.apply P true (fat b a (.inRegion ops (i::rest)::k)) cs none (execOp a.eval o) w:=by
   simp only[stepG.oper,Frame.oper?,fat,ho];split
   ·rename_i c hc Ex;exact absurd Ex (hd _)
   ·rw[he]
  grind [stepG,stepG.exec,Frame.oper?,fat]
end
inductive Callee (P:Program):Next→Frame→Prop
 | enter (f:FuncId) (args:Array Value):Callee P (.enter f args) (Frame.enter P f args .normal)
 | round (l:Nat) (f:FuncId) (tmps:Array Value) (az bd:Code):Callee P (.round l f tmps az bd) (Frame.round l f tmps az bd .normal)
def Item.own:List Item→Bool
 | .call .. :: _=>false
 | .extern .. :: _=>false
 | _=>true
section
variable {P:Program} {fr:Frame} {cs:List Frame} {w w':World} {s:Sem Next}
theorem zB{n:Next}{Jy:Frame}(hr:s.run P w = .ok n w')(hn:Callee P n Jy)(ht:Item.own fr.todo=true):
  (stepG.apply P true fr cs none s w).bare = .go { frame:=Jy,callers:=fr::cs,status:=.running,dying:=none } w':=by
 obtain⟨fn,tmps,todo,defers,mode,kind,ro⟩:=fr;cases hn with
 | enter f args=>
  cases todo with
  | nil=>simp[stepG.apply,hr]
  | cons x r=>cases x<;>first|(simp[stepG.apply,hr];done)|cases ht
 | round l f tmps az bd=>simp[stepG.apply,hr]
theorem pQ{v:Value}(hr:s.run P w = .ok (.value v) w'):
  (stepG.apply P true fr cs none s w).bare = .go { frame:=fr.finish v,callers:=cs,status:=.running,dying:=none } w':=by
 simp[stepG.apply,hr]
theorem rU(hr:s.run P w = .ok .skip w'):
  (stepG.apply P true fr cs none s w).bare = .go { frame:=fr.finish undef,callers:=cs,status:=.running,dying:=none } w':=by
 simp[stepG.apply,hr]
theorem apply_defer{d:Deferred}(hr:s.run P w = .ok (.defer d) w'):
  (stepG.apply P true fr cs none s w).bare = .go { frame:={ fr with defers:=d::fr.defers }.finish undef,callers:=cs,status:=.running,dying:=none } w':=by
 simp[stepG.apply,hr]
theorem apply_panic{v:Value}(hr:s.run P w = .halt (.panic v) w'):
  (stepG.apply P true fr cs none s w).bare = .go { frame:=fr.raise [{ v,recovered:=false }],callers:=cs,status:=.running,dying:=none } w':=by
 simp[stepG.apply,hr]
theorem apply_recover(hr:s.run P w = .ok .recover w')(Ai:fr.roundOf=none):
  (stepG.apply P true fr cs none s w).bare=match tryRecover fr cs with
   | some (v,callers)=>.go { frame:=fr.finish v,callers,status:=.running,dying:=none } w'
   | none=>.go { frame:=fr.finish .nilIface,callers:=cs,status:=.running,dying:=none } w':=by
 simp only[stepG.apply,Sem.runT_eq,hr,GStep.bare_after,Ai,if_true];cases tryRecover fr cs with
 | none=>rfl
 | some p=>rfl
end
variable {P:Program}
def qN(P:Program)(m:Machine)(c0:Frame)(cs:List Frame)(R:Ending→World→Prop):Prop:=
 ∃e w',R e w'∧match e with
  | .returned v=>Steps P m (lone (c0.finish v) cs w')
  | .panicked ch=>Steps P m (lone (c0.raise ch) cs w')
  | .outgrown=>False
theorem qN.of_calls{f:FuncId}{args:Array Value}{w:World}{R:Ending→World→Prop}(h:Calls P f args w R)(Dl:∀w',¬R .outgrown w')(c0:Frame)(cs:List Frame):
  qN P (lone (Frame.enter P f args .normal) (c0::cs) w) c0 cs R:=by
 obtain⟨e,w',fr,hR,hc,_,hl⟩:=h (c0::cs);refine⟨e,w',hR,?_⟩;cases e with
 | returned v=>exact fW hc (.one (step_leave_returned hl))
 | panicked ch=>exact fW hc (.one (step_leave_panicked hl))
 | outgrown=>exact Dl _ hR
def oI(P:Program)(s:Sem Next)(w:World)(R:Ending→World→Prop):Prop:=
 ∃n w1 Jy,s.run P w = .ok n w1∧Callee P n Jy∧∀c0 cs,qN P (lone Jy (c0::cs) w1) c0 cs R
inductive Ou where
 | normal
 | exit (id:Nat)
 | ret
 | pan (Aj:List PanicEntry)
def Ends(P:Program)(m:Machine)(b:Frame)(k:List Item)(cs:List Frame):Ou→Act→World→Prop
 | .normal,a,w=>Steps P m (lone (fat b a k) cs w)
 | .exit id,a,w=>∃todo,iE id todo=iE id k∧Steps P m (lone (fat b a (.code (tT id)::todo)) cs w)
 | .ret,a,w=>∃todo,Steps P m (lone (fat b a (.code .ret::todo)) cs w)
 | .pan ch,a,w=>∃todo,Item.own todo=true∧Steps P m (lone { fat b a todo with mode:=.panicking ch } cs w)
theorem Ends.of_steps{m m1:Machine}{b:Frame}{k:List Item}{cs:List Frame}{o:Ou}{a:Act}{w:World}(h:Steps P m m1)(h':Ends P m1 b k cs o a w):Ends P m b k cs o a w:=by
 cases o with
 | normal=>exact h.trans h'
 | exit id=>obtain⟨t,h1,h2⟩:=h';exact⟨t,h1,h.trans h2⟩
 | ret=>obtain⟨t,h2⟩:=h';exact⟨t,h.trans h2⟩
 | pan ch=>obtain⟨t,h1,h2⟩:=h';exact⟨t,h1,h.trans h2⟩
theorem Ends.pass{m:Machine}{b:Frame}{k:List Item}{x:Item}{cs:List Frame}{o:Ou}{a:Act}{w:World}(hx:∀id,iE id (x::k)=iE id k)(ho:o≠.normal) 
  (h:Ends P m b (x::k) cs o a w):Ends P m b k cs o a w:=by
 cases o with
 | normal=>grind
 | exit id=>obtain⟨t,h1,h2⟩:=h;exact⟨t,h1.trans (hx id),h2⟩
 | ret=>exact h
 | pan ch=>exact h
end Zv
