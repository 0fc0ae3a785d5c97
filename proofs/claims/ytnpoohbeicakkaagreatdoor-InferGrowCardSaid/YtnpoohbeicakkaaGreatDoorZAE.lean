/- Maps, iterators over maps, type assertions: what the model does is what the abstract operations say. Conditions: none. -/
import Derived.Test.YtnpoohbeicakkaaGreatDoorZAD
import Derived.Laws.Externs
import Derived.Lib.Bytealg
import Derived.Lib.AppendZeros
import Derived.Lib.Builder
import Derived.Lib.UnsafeStr
import Derived.Lib.MakeNoZero
import Derived.Defers
import Derived.Recover
set_option linter.unusedSimpArgs false
set_option linter.unusedVariables false
namespace Zv
open Go
def KeyB(td:TypeDesc)(k:ET):Prop:=(td = .bool∧k = .bool)∨(∃i,td = .int i∧k = .int)∨(td = .string∧k = .str)
def KeyA(P:Program)(td:TypeDesc)(k:ET):Prop:=
 ∃len el c,td = .array len el∧P.underlying el=some (.int c)∧cSz P el=some none∧iE P el=some 1∧k = .parts ((List.range len).map fun i=>(i,none,.int))
theorem keyT_kind{P:Program}{t:TypeId}{k:ET}(h:keyT P t=some k):∃td,P.underlying t=some td∧(KeyB td k∨KeyA P td k):=by
 unfold keyT at h;split at h
 ·cases h;exact⟨_,by assumption,.inl (.inl ⟨rfl,rfl⟩)⟩
 ·cases h;exact⟨_,by assumption,.inl (.inr (.inl ⟨_,rfl,rfl⟩))⟩
 ·cases h;exact⟨_,by assumption,.inl (.inr (.inr ⟨rfl,rfl⟩))⟩
 ·rename_i len el hu;split at h
  ·rename_i c h1 h2 h3;cases h;exact⟨_,hu,.inr ⟨_,_,_,rfl,h1,h2,h3,rfl⟩⟩
  ·cases h
 ·cases h
theorem keqs_spec:∀{xs ys:List D} {r:Bool},keqs xs ys=some r→(∀d∈xs,∃k n,d=D.int k n)∧xs.length=ys.length∧(r=true→xs=ys)
 | [],[],r,h=>⟨fun d hd=>(by cases hd),rfl,fun _=>rfl⟩
 | [],_::_,r,h=>by simp[keqs]at h
 | d::xs,[],r,h=>by cases d<;>simp[keqs]at h
 | d::xs,e::ys,r,h=>by
  cases d<;>cases e<;>simp only[keqs,reduceCtorEq]at h
  rename_i k a j b;split at h
  ·rename_i hkj;subst hkj;split at h
   ·rename_i r' hr';cases h;obtain⟨g1,g2,g3⟩:=keqs_spec hr';refine⟨fun d hd=>?_,by simp[g2],fun e=>?_⟩
    ·rcases bL.1 hd with rfl|hd
     ·exact⟨_,_,rfl⟩
     ·exact g1 d hd
    ·simp only[bE,beq_iff_eq]at e;rw[e.1,g3 e.2]
   ·cases h
  ·cases h
theorem keqs_eqT(xs ys:List D):∀(m o:Nat) (xs' ys':List D) (r:Bool),xs.drop o=xs'→ys.drop o=ys'→xs'.length=m→keqs xs' ys'=some r →
  uN ((List.range' o m).map fun i=>(i,none,ET.int)) xs ys=some r
 | 0,o,xs',ys',r,hx,hy,hl,hk=>by
  cases xs' with
  | cons a b=>cases hl
  | nil=>cases ys' with
   | nil=>simpa[uN,keqs]using hk
   | cons a b=>simp[keqs]at hk
 | m+1,o,xs',ys',r,hx,hy,hl,hk=>by
  cases xs' with
  | nil=>cases hl
  | cons d xs''=>cases ys' with
   | nil=>cases d<;>simp[keqs]at hk
   | cons e ys''=>
    have h1:xs[o]?=some d:=by rw[←List.head?_drop,hx];rfl
    have h2:ys[o]?=some e:=by rw[←List.head?_drop,hy];rfl
    have h3:xs.drop (o+1)=xs'':=by rw[←List.tail_drop,hx];rfl
    have h4:ys.drop (o+1)=ys'':=by rw[←List.tail_drop,hy];rfl
    simp only[aU,Nat.add_right_cancel_iff]at hl;cases d<;>cases e<;>simp only[keqs,reduceCtorEq]at hk
    rename_i k a j b;split at hk
    ·rename_i hkj;subst hkj;split at hk
     ·rename_i r' hr';cases hk;have ih:=keqs_eqT xs ys m (o+1) xs'' ys'' r' h3 h4 hl hr';simp only[List.range'_succ,bW,uN,dE,h1,h2,eqT,if_true,ih];cases a==b<;>simp
     ·cases hk
    ·cases hk
section
variable {E:Env} {M0:Nat→Prop} {w0:World} {N:Nat} {μ:Mu} {M:Nat→Prop} {a:Act} {w:World} {x:AS}
theorem ba_beq(p q:List UInt8):((⟨p.toArray⟩:ByteArray)==⟨q.toArray⟩)=(p==q):=by
 show(p.toArray==q.toArray)=_;simp
theorem same_rel{td:TypeDesc}{k:ET}(hk:KeyB td k){i j:D}{u v:Value}{r:Bool}(h:eqT k i j=some r)(hu:aP (Mm M0 μ) w μ i u)(hv:aP (Mm M0 μ) w μ j v):
  Instr.sameNow td u v=some r∧(r=true→i=j∧u=v∧Instr.sameBits 10000 v u=true):=by
 rcases hk with⟨rfl,rfl⟩|⟨c,rfl,rfl⟩|⟨rfl,rfl⟩
 ·unfold eqT at h;split at h
  all_goals first
   | (cases h;done)
   | (rename_i e;cases e;done)
   | skip
  cases h;simp only[aP]at hu hv;subst hu hv;refine⟨rfl,fun e=>?_⟩
  have e':=eq_of_beq e;subst e';exact⟨rfl,rfl,by simp[Instr.sameBits]⟩
 ·unfold eqT at h;split at h
  all_goals first
   | (cases h;done)
   | (rename_i e;cases e;done)
   | skip
  rename_i k1 a1 k2 a2 _;simp only[aP]at hu hv;subst hu hv;by_cases e:k1=k2
  ·rw[aH e]at h;cases h;subst e;refine⟨by simp[Instr.sameNow],fun e=>?_⟩
   have e':=eq_of_beq e;subst e';exact⟨rfl,rfl,by simp[Instr.sameBits]⟩
  ·rw[aD e]at h;cases h
 ·unfold eqT at h;split at h
  all_goals first
   | (cases h;done)
   | (rename_i e;cases e;done)
   | skip
  cases h;simp only[aP]at hu hv;subst hu hv;rename_i p q _;refine⟨?_,fun e=>?_⟩
  ·simp only[Instr.sameNow,aC];exact ba_beq p q
  ·have e':=eq_of_beq e;subst e';exact⟨rfl,rfl,by simp only[Instr.sameBits,ba_beq];simp⟩
theorem keyEq_b{td:TypeDesc}{k:ET}(hk:KeyB td k)(a b:D):keyEq k a b=eqT k a b:=by
 rcases hk with⟨_,rfl⟩|⟨_,_,rfl⟩|⟨_,rfl⟩<;>rfl
theorem run_checkKey{P:Program}{t:TypeId}{td:TypeDesc}{k:ET}(hu:P.underlying t=some td)(hk:KeyB td k)(e:Bool)(v:Value)(w:World):
  (Instr.checkKey e 10000 t v).run P w = .ok () w:=by
 rw[show(10000:Nat)=9999+1 from rfl]
 unfold Instr.checkKey;simp only[aY,aZ hu,aM];rcases hk with⟨rfl,rfl⟩|⟨c,rfl,rfl⟩|⟨rfl,rfl⟩<;>rfl
theorem find_rel{td:TypeDesc}{k:ET}(hk:KeyB td k){i:D}{v:Value}(hv:aP (Mm M0 μ) w μ i v):∀{es:List (D×D×Nat)} {ents:List MapEntry} {n:Nat} {r:Option (Nat×D)},MEs (Mm M0 μ) w μ es ents →
  mfind k i es n=some r→(r=none∧Instr.findNow td v ents n=some none) ∨
   ∃j d e kd b,r=some (n+j,d)∧Instr.findNow td v ents n=some (some (n+j,e.val))∧ents[j]?=some e∧es[j]?=some (kd,d,b)∧aP (Mm M0 μ) w μ d e.val∧e.key=v∧Instr.sameBits 10000 e.key v=true
 | [],ents,n,r,h,hm=>by
  simp only[MEs]at h;subst h;unfold mfind at hm;cases hko:keyOk k i<;>rw[hko]at hm<;>cases hm
  exact .inl ⟨rfl,rfl⟩
 | (kd,d,b)::rest,ents,n,r,h,hm=>by
  simp only[MEs]at h;obtain⟨e,r',rfl,h1,h2,h3,h4⟩:=h;unfold mfind at hm;split at hm
  ·rename_i he;cases hm;obtain⟨g1,g2⟩:=same_rel hk ((keyEq_b hk _ _).symm.trans he) hv h1;obtain⟨_,g3,g4⟩:=g2 rfl;refine .inr ⟨0,d,e,kd,b,rfl,?_,rfl,rfl,h2,g3.symm,g4⟩;simp[Instr.findNow,g1]
  ·rename_i he;obtain⟨g1,_⟩:=same_rel hk ((keyEq_b hk _ _).symm.trans he) hv h1;rcases find_rel hk hv h4 hm with⟨q1,q2⟩|⟨j,d',e',kd',b',q1,q2,q3,q4,q5⟩
   ·exact .inl ⟨q1,by simp[Instr.findNow,g1,q2]⟩
   ·refine .inr ⟨j+1,d',e',kd',b',by rw[q1];congr 2;omega,?_,by simpa using q3,by simpa using q4,q5⟩
    simp only[Instr.findNow,g1,q2]
    congr 3;omega
  ·cases hm
theorem run_findKey{P:Program}{t:TypeId}{td:TypeDesc}(hu:P.underlying t=some td){v:Value}{ents:List MapEntry}{r:Option (Nat×Value)}(h:Instr.findNow td v ents 0=some r)(w:World):
  (Instr.findKey t v ents).run P w = .ok r w:=by
 simp only[Instr.findKey,aY,aZ hu,aM,h,bO]
theorem arr_eq{P:Program}{t el:TypeId}{len:Nat}{c:IntKind}(hu:P.underlying t=some (.array len el))(hel:P.underlying el=some (.int c))(hcs:cSz P el=some none)(hsz:iE P el=some 1)
  {i j:D} {u v:Value} {r:Bool} (h:keyEq (.parts ((List.range len).map fun i=>(i,none,.int))) i j=some r) (hu':aP (Mm M0 μ) w μ i u) (hv:aP (Mm M0 μ) w μ j v) :
  (Op.equal t u v).run P w = .ok r w∧(∃xs,i = .agg xs∧xs.length=len∧∀d∈xs,∃k n,d=D.int k n)∧(r=true→i=j):=by
 unfold keyEq at h;simp only at h;split at h
 ·rename_i xs ys;cases hl:Nat.beq xs.length ((List.range len).map fun i=>(i,(none:Option Nat),ET.int)).length<;>rw[hl]at h
  ·cases h
  have hl':=aR hl;simp only[fA,List.length_range]at hl';simp only[aS]at h;obtain⟨g1,g2,g3⟩:=keqs_spec h;have he1:eT P 19 el=some .int:=by
   rw[show(19:Nat)=18+1 from rfl];unfold eT;rw[hel]
  have he:eT P 20 t=some (.parts ((List.range len).map fun i=>(i,none,ET.int))):=by
   rw[show(20:Nat)=19+1 from rfl];unfold eT;rw[hu];simp[hcs,hsz,he1]
  have hq:eqT (.parts ((List.range len).map fun i=>(i,none,ET.int))) (.agg xs) (.agg ys)=some r:=by
   simp only[eqT];rw[List.range_eq_range'];exact keqs_eqT xs ys len 0 xs ys r rfl rfl hl' h
  have:=eqT_rel 20 t _ _ _ r u v he hq hu' hv 10000 (by omega)
  exact⟨by simpa only[Op.equal,Op.maxDepth]using this,⟨xs,rfl,hl',g1⟩,fun e=>by rw[g3 e]⟩
 ·cases h
theorem ints_eq{xs:List D}(hx:∀d∈xs,∃k n,d=D.int k n):∀{us vs:List Value},aX (Mm M0 μ) w μ xs us→aX (Mm M0 μ) w μ xs vs→us=vs∧∀n,(us.zip us).all (fun(x,y)=>Instr.sameBits n x y)=true:=by
 induction xs with
 | nil=>
  intro us vs h1 h2;simp only[aX]at h1 h2;subst h1 h2;exact⟨rfl,fun _=>rfl⟩
 | cons d r ih=>
  intro us vs h1 h2;simp only[aX]at h1 h2;obtain⟨u,ur,rfl,h3,h4⟩:=h1;obtain⟨v,vr,rfl,h5,h6⟩:=h2;obtain⟨k,n,rfl⟩:=hx d bH;simp only[aP]at h3 h5;subst h3 h5;obtain⟨g1,g2⟩:=ih (fun d hd=>hx d (bG _ hd)) h4 h6
  refine⟨by rw[g1],fun m=>?_⟩
  simp only[List.zip_cons_cons,List.all_cons,g2 m,Bool.and_true];cases m<;>simp[Instr.sameBits]
theorem agg_same{i:D}{u v:Value}{xs:List D}(e:i = .agg xs)(hx:∀d∈xs,∃k n,d=D.int k n)(h1:aP (Mm M0 μ) w μ i u)(h2:aP (Mm M0 μ) w μ i v):u=v∧Instr.sameBits 10000 u v=true:=by
 subst e;simp only[aP]at h1 h2;obtain⟨us,rfl,h1⟩:=h1;obtain⟨vs,rfl,h2⟩:=h2;obtain⟨g1,g2⟩:=ints_eq hx h1 h2;have:us=vs:=Array.ext' g1;subst this;refine⟨rfl,?_⟩;rw[show(10000:Nat)=9999+1 from rfl]
 unfold Instr.sameBits;simp only[gP,Bool.true_and];exact g2 9999
theorem find_arr{P:Program}{t el:TypeId}{len:Nat}{c:IntKind}(hu:P.underlying t=some (.array len el))(hel:P.underlying el=some (.int c))(hcs:cSz P el=some none)(hsz:iE P el=some 1)
  {i:D} {v:Value} (hv:aP (Mm M0 μ) w μ i v):∀{es:List (D×D×Nat)} {ents:List MapEntry} {n:Nat} {r:Option (Nat×D)},MEs (Mm M0 μ) w μ es ents →
  mfind (.parts ((List.range len).map fun i=>(i,none,.int))) i es n=some r→(∃xs,i = .agg xs∧xs.length=len∧∀d∈xs,∃k n,d=D.int k n)∧((r=none∧(Instr.findAsking t v ents n).run P w = .ok none w) ∨
   ∃j d e kd b,r=some (n+j,d)∧(Instr.findAsking t v ents n).run P w = .ok (some (n+j,e.val)) w∧ents[j]?=some e∧es[j]?=some (kd,d,b)∧aP (Mm M0 μ) w μ d e.val∧e.key=v∧Instr.sameBits 10000 e.key v=true)
 | [],ents,n,r,h,hm=>by
  simp only[MEs]at h;subst h;unfold mfind at hm;cases hko:keyOk (.parts ((List.range len).map fun i=>(i,none,.int))) i<;>rw[hko]at hm<;>cases hm
  refine⟨?_,.inl ⟨rfl,rfl⟩⟩;unfold keyOk at hko;simp only at hko;split at hko
  ·rename_i q hq;exact(arr_eq hu hel hcs hsz hq hv hv).2.1
  ·cases hko
 | (kd,d,b)::rest,ents,n,r,h,hm=>by
  simp only[MEs]at h;obtain⟨e,r',rfl,h1,h2,h3,h4⟩:=h;unfold mfind at hm;split at hm
  ·rename_i he;cases hm;obtain⟨g1,⟨xs,g2,g3,g4⟩,g5⟩:=arr_eq hu hel hcs hsz he hv h1;have hkv:=agg_same g2 g4 hv (by rw[g5 rfl];exact h1)
   refine⟨⟨xs,g2,g3,g4⟩,.inr ⟨0,d,e,kd,b,rfl,?_,rfl,rfl,h2,hkv.1.symm,by rw[←hkv.1];have:=hkv.2;rwa [←hkv.1]at this⟩⟩
   simp only[Instr.findAsking,aY,g1,aM,if_true,bO,Nat.add_zero]
  ·rename_i he;obtain⟨g1,_,_⟩:=arr_eq hu hel hcs hsz he hv h1;obtain⟨hx,hh⟩:=find_arr hu hel hcs hsz hv h4 hm;refine⟨hx,?_⟩;rcases hh with⟨q1,q2⟩|⟨j,d',e',kd',b',q1,q2,q3,q4,q5⟩
   ·exact .inl ⟨q1,by simp only[Instr.findAsking,aY,g1,aM,cN,eV,q2]⟩
   ·refine .inr ⟨j+1,d',e',kd',b',by rw[q1];congr 2;omega,?_,by simpa using q3,by simpa using q4,q5⟩
    simp only[Instr.findAsking,aY,g1,aM,cN,eV,q2]
    congr 3;omega
  ·cases hm
theorem run_checkKey_arr{P:Program}{t el:TypeId}{len:Nat}{c:IntKind}(hu:P.underlying t=some (.array len el))(hel:P.underlying el=some (.int c))(hcs:cSz P el=some none)(hsz:iE P el=some 1)
  {i:D} {v:Value} (hv:aP (Mm M0 μ) w μ i v) {xs:List D} (hi:i = .agg xs) (hl:xs.length=len) (hx:∀d∈xs,∃k n,d=D.int k n) (e:Bool) :
  (Instr.checkKey e 10000 t v).run P w = .ok () w:=by
 subst hi;simp only[aP]at hv;obtain⟨vs,rfl,hr⟩:=hv;obtain⟨ii,bb,h3,h4,h5⟩:=xR hcs;have hbb:bb=false:=by cases bb<;>simp at h5 ⊢
 subst hbb;rw[show(10000:Nat)=9999+1 from rfl]
 unfold Instr.checkKey;simp only[aY,aZ hu,aM,dO hsz];have hstep:∀j,j<len→∃u,(part el vs (j*1)).run P w = .ok u w∧(Instr.checkKey e 9999 el u).run P w = .ok () w:=by
  intro j hj;obtain⟨u,hu1,hu2⟩:=pT (P:=P) (off:=j*1) (bb:=false) hr h4 hsz (d:=xs[j]'(by omega)) (by simp only[cF,dE,dL];exact aI (by omega))
  refine⟨u,hu1,?_⟩;rw[show(9999:Nat)=9998+1 from rfl]
  unfold Instr.checkKey;simp only[aY,aZ hel,aM];rfl
 simp only[Std.Legacy.Range.forIn_eq_forIn_range',Std.Legacy.Range.size,fF,Nat.add_sub_cancel,Nat.div_one];have hL:∀j∈List.range' 0 len,j<len:=fun j hj=>by have:=List.mem_range'_1.1 hj;omega
 generalize List.range' 0 len=L at hL
 induction L with
 | nil=>rfl
 | cons j r ih=>
  obtain⟨u,g1,g2⟩:=hstep j (hL j bH);simp only[List.forIn_cons,aY,g1,g2,aM,bO,dO hsz];exact ih fun j hj=>hL j (bG _ hj)
theorem tG{P:Program}{t:TypeId}{td:TypeDesc}{k:ET}(hu:P.underlying t=some td)(hk:KeyB td k∨KeyA P td k){i:D}{v:Value}(hv:aP (Mm M0 μ) w μ i v){es:List (D×D×Nat)}{ents:List MapEntry}{r:Option (Nat×D)}
  (h:MEs (Mm M0 μ) w μ es ents) (hm:mfind k i es 0=some r):(∀e,(Instr.checkKey e 10000 t v).run P w = .ok () w)∧((r=none∧(Instr.findKey t v ents).run P w = .ok none w) ∨
   ∃j d e kd b,r=some (j,d)∧(Instr.findKey t v ents).run P w = .ok (some (j,e.val)) w∧ents[j]?=some e∧es[j]?=some (kd,d,b)∧aP (Mm M0 μ) w μ d e.val∧e.key=v∧Instr.sameBits 10000 e.key v=true):=by
 rcases hk with hk|⟨len,el,c,rfl,hel,hcs,hsz,rfl⟩
 ·refine⟨fun e=>run_checkKey hu hk e v w,?_⟩
  rcases find_rel hk hv h hm with⟨q1,q2⟩|⟨j,d,e,kd,b,q1,q2,q3⟩
  ·exact .inl ⟨q1,run_findKey hu q2 w⟩
  ·rw[bK]at q1 q2;exact .inr ⟨j,d,e,kd,b,q1,run_findKey hu q2 w,q3⟩
 ·obtain⟨⟨xs,g1,g2,g3⟩,hh⟩:=find_arr hu hel hcs hsz hv h hm;refine⟨fun e=>run_checkKey_arr hu hel hcs hsz hv g1 g2 g3 e,?_⟩
  have hfk:(Instr.findKey t v ents).run P w=(Instr.findAsking t v ents 0).run P w:=by
   simp only[Instr.findKey,aY,aZ hu,aM];cases ents with
   | nil=>simp[Instr.findNow,Instr.findAsking]
   | cons a b=>simp[Instr.findNow,Instr.sameNow]
  rw[hfk];rcases hh with hh|⟨j,d,e,kd,b,q1,q2,q3⟩
  ·exact .inl hh
  ·rw[bK]at q1 q2;exact .inr ⟨j,d,e,kd,b,q1,q2,q3⟩
theorem MEs.length:∀{es:List (D×D×Nat)} {ents:List MapEntry},MEs (Mm M0 μ) w μ es ents→ents.length=es.length
 | [],_,h=>by simp only[MEs]at h;subst h;rfl
 | (k,v,n)::r,_,h=>by
  simp only[MEs]at h;obtain⟨e,r',rfl,_,_,_,h4⟩:=h;simp[MEs.length h4]
theorem MEs.set{d':D}{u key:Value}(hd:aP (Mm M0 μ) w μ d' u):∀{es:List (D×D×Nat)} {ents:List MapEntry} {j:Nat} {e:MapEntry},MEs (Mm M0 μ) w μ es ents→ents[j]?=some e→e.key=key →
  MEs (Mm M0 μ) w μ (mset es j d') (ents.modify j fun e=>{ e with key:=key,val:=u })
 | [],_,j,e,h,he,_=>by simp only[MEs]at h;subst h;simp at he
 | (k,v,n)::r,_,0,e,h,he,hkey=>by
  simp only[MEs]at h;obtain⟨e0,r',rfl,h1,h2,h3,h4⟩:=h;simp only[aT,aC]at he;subst he;simp only[mset,MEs,List.modify_zero_cons];refine⟨_,_,rfl,?_,hd,h3,h4⟩;show aP (Mm M0 μ) w μ k key;rw[←hkey];exact h1
 | (k,v,n)::r,_,j+1,e,h,he,hkey=>by
  simp only[MEs]at h;obtain⟨e0,r',rfl,h1,h2,h3,h4⟩:=h;simp only[mset,MEs,List.modify_succ_cons];exact⟨_,_,rfl,h1,h2,h3,MEs.set hd h4 (by simpa using he) hkey⟩
theorem MEs.push{kd vd:D}{e:MapEntry}(h1:aP (Mm M0 μ) w μ kd e.key)(h2:aP (Mm M0 μ) w μ vd e.val):∀{es:List (D×D×Nat)} {ents:List MapEntry},MEs (Mm M0 μ) w μ es ents→MEs (Mm M0 μ) w μ (es++[(kd,vd,e.born)]) (ents++[e])
 | [],_,h=>by
  simp only[MEs]at h;subst h;simp only[cA,MEs];exact⟨e,[],rfl,h1,h2,rfl,rfl⟩
 | (k,v,n)::r,_,h=>by
  simp only[MEs]at h;obtain⟨e0,r',rfl,g1,g2,g3,g4⟩:=h;simp only[cD,MEs];exact⟨_,_,rfl,g1,g2,g3,MEs.push h1 h2 g4⟩
theorem MEs.filter{p:D×D×Nat→Bool}{q:MapEntry→Bool}(hpq:∀k v n e,e.born=n→p (k,v,n)=q e):∀{es:List (D×D×Nat)} {ents:List MapEntry},MEs (Mm M0 μ) w μ es ents→MEs (Mm M0 μ) w μ (es.filter p) (ents.filter q)
 | [],_,h=>by simp only[MEs]at h;subst h;simp[MEs]
 | (k,v,n)::r,_,h=>by
  simp only[MEs]at h;obtain⟨e0,r',rfl,g1,g2,g3,g4⟩:=h;have hp:=hpq k v n e0 g3;cases hq:q e0<;>rw[hq]at hp
  ·simp only[List.filter_cons,hp,hq,cN,eV];exact MEs.filter hpq g4
  ·simp only[List.filter_cons,hp,hq,if_true,MEs];exact⟨_,_,rfl,g1,g2,g3,MEs.filter hpq g4⟩
theorem MEs.any{p:D×D×Nat→Bool}{q:MapEntry→Bool}(hpq:∀k v n e,e.born=n→p (k,v,n)=q e):∀{es:List (D×D×Nat)} {ents:List MapEntry},MEs (Mm M0 μ) w μ es ents→es.any p=ents.any q
 | [],_,h=>by simp only[MEs]at h;subst h;rfl
 | (k,v,n)::r,_,h=>by
  simp only[MEs]at h;obtain⟨e0,r',rfl,g1,g2,g3,g4⟩:=h;simp only[List.any_cons,hpq k v n e0 g3,MEs.any hpq g4]
theorem jJ{P:Program}{w:World}{b:Nat}{o:Obj}(h:w.heap[b]?=some o)(hc:∀vs e fz,o≠.cells vs e fz):(getObj b).run P w = .ok o w:=by
 cases o<;>first|(simp only[getObj,Sem.run,h];done)|exact absurd rfl (hc _ _ _)
theorem vC{P:Program}{w:World}{b:Nat}{o o':Obj}(h:w.heap[b]?=some o)(hc:∀vs e fz,o≠.cells vs e fz):(setObj b o').run P w = .ok () { w with heap:=w.heap.setIfInBounds b o' }:=by
 cases o<;>first|(simp only[setObj,Sem.run,h];done)|exact absurd rfl (hc _ _ _)
theorem op_mkm(h:Rel E M0 w0 N μ a w x){t:TypeId}{d:D}{x':AS}(hs:step E.G .mkm x=some (d,x')):
  gd E M0 w0 N μ w x a d x' w (do pure (.value (←Instr.makeMap t none))):=by
 simp only[step_mkm,qI,aC,dZ]at hs;obtain⟨rfl,rfl⟩:=hs
 let w':World:={ w with heap:=w.heap.push (.map #[] 0) }
 obtain⟨hx,hR,hf⟩:=h.fresh x.c (aJ _) (.mp [] 0) (.map #[] 0) 0 (w':=w') (x':=x.add (.mp [] 0)) rfl (fun _=>rfl) (fun n=>aW _ _ _ _) rfl rfl
  (fun hx hM=>⟨⟨some w.heap.size,0⟩,w.heap.size,#[],by simp[dR],rfl,hM,by simp[w'],by simp[MEs]⟩)
 refine⟨.map (some w.heap.size),w',_,.inl (bP ?_),?_,hR,hf⟩
 ·simp[Instr.makeMap,newObj,Sem.run,w']
 ·simp only[aP];exact⟨_,_,by simp[dR];rfl,rfl,rfl⟩
theorem op_mlk(h:Rel E M0 w0 N μ a w x){t k e:TypeId}(hu:E.P.underlying t=some (.map k e)){z:D}(hz:iR E.P e=some z){kt:ET}(hk:keyT E.P k=some kt){ok:Bool}{o p:Operand}{ar pr:Arg}
  (h2:cS o=some ar) (h3:cS p=some pr) {d:D} {x':AS} (hs:step E.G (.mlk z ok kt ar pr) x=some (d,x')) :
  gd E M0 w0 N μ w x a d x' w (do pure (.value (←Instr.lookup t (a.eval o) (a.eval p) ok))):=by
 have hv:=cP h h2;have hp:=cP h h3;generalize a.eval o=v at *;generalize a.eval p=y at *;obtain⟨td,hkd,hK⟩:=keyT_kind hk;simp only[iR,aB,aA]at hz;obtain⟨i,hi,zv,hzv,hz⟩:=hz;have hzr:aP (Mm M0 μ) w μ z zv:=kC _ _ _ hz;have hzz:(zeroValue e).run E.P w = .ok zv w:=by simp[zeroValue,eE hi,hzv]
 have hfin:∀(dd:D) (vv:Value) (b:Bool),aP (Mm M0 μ) w μ dd vv→aP (Mm M0 μ) w μ (bif ok then .tup (xY dd++[.bool b]) else dd) (if ok then .tuple #[vv,.bool b]else vv):=by
  intro dd vv b hd;cases ok
  ·simpa using hd
  ·simp only[aS,if_true,aP,xY];exact⟨_,rfl,aX.cons hd (aX.cons (by simp only[aP]) aX.nil)⟩
 simp only[wH,pA]at hs;split at hs
 ·rename_i he;rw[he]at hv;simp only[aP]at hv;subst hv;split at hs
  ·rename_i r hf;cases hs;obtain⟨hck,q⟩:=tG (w:=w) hkd hK hp (es:=[]) (ents:=[]) (by simp only[MEs]) hf
   have q2:(Instr.findKey k y []).run E.P w = .ok none w:=by
    rcases q with⟨_,q⟩|⟨j,d,e,kd,b,_,_,q3,_⟩
    ·exact q
    ·cases q3
   refine hU.of (v:=if ok then .tuple #[zv,.bool false]else zv) h (bP ?_) (hfin _ _ _ hzr)
   simp only[Instr.lookup,aY,aZ hu,aM,bO,hck,q2,hzz,List.nil_eq]
  ·cases hs
 ·rename_i nm he;rw[he]at hv;simp only[aP]at hv;obtain⟨l,b,k1,k2,rfl⟩:=hv;split at hs
  ·rename_i es c hg;obtain⟨l',b',ents,g1,g2,g3,g4,g5⟩:=h.st nm _ _ k1 hg;rw[k1]at g1;cases g1;rw[k2]at g2;cases g2;have hobj:(getObj b).run E.P w = .ok (.map ents c) w:=jJ g4 (by intro _ _ _ hh;cases hh)
   split at hs
   ·rename_i j u hf;cases hs;obtain⟨hck,hfr⟩:=tG (w:=w) hkd hK hp g5 hf;rcases hfr with⟨q1,q2⟩|⟨j',d',e',kd',b',q1,q2,q3,q4,q5,q6⟩
    ·cases q1
    ·cases q1;refine hU.of (v:=if ok then .tuple #[e'.val,.bool true]else e'.val) h (bP ?_) (hfin _ _ _ q5)
     simp only[Instr.lookup,aY,aZ hu,aM,bO,hobj,hck,q2]
   ·rename_i hf;cases hs;obtain⟨hck,hfr⟩:=tG (w:=w) hkd hK hp g5 hf;rcases hfr with⟨q1,q2⟩|⟨j',d',e',kd',b',q1,q2,q3,q4,q5,q6⟩
    ·refine hU.of (v:=if ok then .tuple #[zv,.bool false]else zv) h (bP ?_) (hfin _ _ _ hzr)
     simp only[Instr.lookup,aY,aZ hu,aM,bO,hobj,hck,q2,hzz]
    ·cases q1
   ·cases hs
  ·cases hs
 ·cases hs
theorem op_mup(h:Rel E M0 w0 N μ a w x){t k e:TypeId}(hu:E.P.underlying t=some (.map k e)){kt:ET}(hk:keyT E.P k=some kt){o p q:Operand}{ar pr qr:Arg}
  (h2:cS o=some ar) (h3:cS p=some pr) (h4:cS q=some qr) {d:D} {x':AS} (hs:step E.G (.mup kt ar pr qr) x=some (d,x')) :
  gd E M0 w0 N μ w x a d x' w (do Instr.mapUpdate t (a.eval o) (a.eval p) (a.eval q);pure .skip):=by
 have hv:=cP h h2;have hp:=cP h h3;have hq:=cP h h4;generalize a.eval o=v at *;generalize a.eval p=y at *;generalize a.eval q=u at *;obtain⟨td,hkd,hK⟩:=keyT_kind hk;simp only[step_mup,qH]at hs;split at hs
 ·rename_i nm he;rw[he]at hv;simp only[aP]at hv;obtain⟨l,b,k1,k2,rfl⟩:=hv;split at hs
  ·rename_i es c hg;obtain⟨l',b',ents,g1,g2,g3,g4,g5⟩:=h.st nm _ _ k1 hg;rw[k1]at g1;cases g1;rw[k2]at g2;cases g2;have hb:b<w.heap.size:=(h.own nm l b k1 k2).2;have hobj:(getObj b).run E.P w = .ok (.map ents c) w:=jJ g4 (by intro _ _ _ hh;cases hh)
   have hset:∀o',(setObj b o').run E.P w = .ok () { w with heap:=w.heap.setIfInBounds b o' }:=fun o'=>vC g4 (by intro _ _ _ hh;cases hh)
   split at hs
   ·rename_i j uu hf;obtain⟨hck,hfr⟩:=tG (w:=w) hkd hK hp g5 hf;rcases hfr with⟨q1,q2⟩|⟨j',d',e',kd',b',q1,q2,q3,q4,q5,q6,q7⟩
    ·cases q1
    ·simp only[aC,dZ,bK]at q1;obtain⟨rfl,rfl⟩:=q1;simp only[aC,dZ]at hs;obtain⟨rfl,rfl⟩:=hs
     let w':World:={ w with heap:=w.heap.setIfInBounds b (.map (ents.modify j fun e=>{ e with key:=y,val:=u }) c) }
     obtain⟨hx,hR,hf'⟩:=h.write nm (.mp (mset es j (qr.ev E.G x.t)) c) l b (w':=w') (x':={ x with s:=sset x.s nm (.mp (mset es j (qr.ev E.G x.t)) c) }) k1 k2 (by rw[hg];rfl) (by simp[w'])
      (fun k hk=>by simp only[w'];rw[dA (fun e=>hk e.symm)]) (fun n=>rfl) (fun n=>by rw[aN]) rfl rfl
      (fun hx=>⟨l,b,_,k1,k2,g3,by simp[w',hb];rfl,by
       rw[Array.toList_modify];exact MEs.set (aP.mono hx _ _ (fV.refl _) hq) (MEs.mono hx (fV.refl _) g5) (by simpa using q3) q6⟩)
     refine⟨undef,w',μ,.inr ⟨?_,rfl⟩,by simp only[aP],hR,hf'⟩
     have hkey:((ents[j]?).map (·.key)).getD y=y:=by
      rw[←Array.getElem?_toList,q3];simp[q6]
     have hsb:Instr.sameBits 10000 y y=true:=by rw[q6]at q7;exact q7
     simp only[Instr.mapUpdate,aY,aZ hu,aM,hobj,hck,q2,hkey,Instr.keyThatStays,hsb,if_true,bO,hset,w']
   ·rename_i hf;obtain⟨hck,hfr⟩:=tG (w:=w) hkd hK hp g5 hf;rcases hfr with⟨q1,q2⟩|⟨j',d',e',kd',b',q1,q2,q3,q4,q5,q6⟩
    ·simp only[aC,dZ]at hs;obtain⟨rfl,rfl⟩:=hs
     let w':World:={ w with heap:=w.heap.setIfInBounds b (.map (ents.push { key:=y,val:=u,born:=c }) (c+1)) }
     obtain⟨hx,hR,hf'⟩:=h.write nm (.mp (es++[(pr.ev E.G x.t,qr.ev E.G x.t,c)]) (c+1)) l b (w':=w') (x':={ x with s:=sset x.s nm (.mp (es++[(pr.ev E.G x.t,qr.ev E.G x.t,c)]) (c+1)) }) k1 k2 (by rw[hg];rfl) (by simp[w'])
      (fun k hk=>by simp only[w'];rw[dA (fun e=>hk e.symm)]) (fun n=>rfl) (fun n=>by rw[aN]) rfl rfl
      (fun hx=>⟨l,b,_,k1,k2,g3,by simp[w',hb];rfl,by
       rw[Array.toList_push];exact MEs.push (e:={ key:=y,val:=u,born:=c }) (aP.mono hx _ _ (fV.refl _) hp) (aP.mono hx _ _ (fV.refl _) hq) (MEs.mono hx (fV.refl _) g5)⟩)
     refine⟨undef,w',μ,.inr ⟨?_,rfl⟩,by simp only[aP],hR,hf'⟩
     simp only[Instr.mapUpdate,aY,aZ hu,aM,hobj,hck,q2,bO,hset,w']
    ·cases q1
   ·cases hs
  ·cases hs
 ·cases hs
theorem op_mln(h:Rel E M0 w0 N μ a w x){t k e ty:TypeId}(hu:E.P.underlying t=some (.map k e)){o:Operand}{ar:Arg}(h2:cS o=some ar){d:D}{x':AS}
  (hs:step E.G (.mln ar) x=some (d,x')):gd E M0 w0 N μ w x a d x' w (do pure (.value (←Builtin.len_ #[t] ty #[a.eval o]))):=by
 simp only[wG,oZ]at hs;cases hs
theorem op_rgm(h:Rel E M0 w0 N μ a w x){t k e:TypeId}(hu:E.P.underlying t=some (.map k e)){o:Operand}{ar:Arg}(h2:cS o=some ar){d:D}{x':AS}
  (hs:step E.G (.rgm ar) x=some (d,x')):gd E M0 w0 N μ w x a d x' w (do pure (.value (←Instr.range t (a.eval o)))):=by
 have hv:=cP h h2;generalize a.eval o=v at *;simp only[step_rgm,qF]at hs;split at hs
 ·rename_i he;rw[he]at hv;simp only[aP]at hv;subst hv;cases hs
  let w':World:={ w with heap:=w.heap.push (.mapIter none 0 #[] 0) }
  obtain⟨hx,hR,hf⟩:=h.fresh x.c (aJ _) (.mit none 0 [] 0) (.mapIter none 0 #[] 0) 0 (w':=w') (x':=x.add (.mit none 0 [] 0)) rfl (fun _=>rfl) (fun n=>aW _ _ _ _) rfl rfl
   (fun hx hM=>⟨⟨some w.heap.size,0⟩,w.heap.size,none,by simp[dR],rfl,hM,by simp[w'],rfl⟩)
  refine⟨.pointer (some ⟨w.heap.size,0,none⟩),w',_,.inl (bP (by simp[Instr.range,aZ hu,w',newObj,Sem.run])),?_,hR,hf⟩
  simp only[aP];exact⟨_,_,by simp[dR];rfl,rfl,rfl⟩
 ·rename_i nm he;rw[he]at hv;simp only[aP]at hv;obtain⟨l,b,k1,k2,rfl⟩:=hv;split at hs
  ·rename_i es c hg;obtain⟨l',b',ents,g1,g2,g3,g4,g5⟩:=h.st nm _ _ k1 hg;rw[k1]at g1;cases g1;rw[k2]at g2;cases g2;have hobj:(getObj b).run E.P w = .ok (.map ents c) w:=jJ g4 (by intro _ _ _ hh;cases hh)
   cases hs
   let w':World:={ w with heap:=w.heap.push (.mapIter (some b) c #[] c) }
   obtain⟨hx,hR,hf⟩:=h.fresh x.c (aJ _) (.mit (some nm) c [] c) (.mapIter (some b) c #[] c) 0 (w':=w') (x':=x.add (.mit (some nm) c [] c)) rfl (fun _=>rfl) (fun n=>aW _ _ _ _) rfl rfl
    (fun hx hM=>⟨⟨some w.heap.size,0⟩,w.heap.size,some b,by simp[dR],rfl,hM,by simp[w'],l,b,h.free_le (aJ _) _ _ _ k1,k2,rfl⟩)
   refine⟨.pointer (some ⟨w.heap.size,0,none⟩),w',_,.inl (bP ?_),?_,hR,hf⟩
   ·simp only[Instr.range,aY,aZ hu,aM,hobj,bO,newObj,Sem.run,w']
   ·simp only[aP];exact⟨_,_,by simp[dR];rfl,rfl,rfl⟩
  ·cases hs
 ·cases hs
theorem op_nxm(h:Rel E M0 w0 N μ a w x){o:Operand}{ar:Arg}(h2:cS o=some ar){ty:TypeId}{d:D}{x':AS}
  (hs:step E.G (.nxm ar) x=some (d,x')):gd E M0 w0 N μ w x a d x' w (do pure (.value (←Instr.next (a.eval o) false ty))):=by
 have hv:=cP h h2;generalize a.eval o=v at *;simp only[step_nxm,qG]at hs;split at hs
 ·rename_i nm he;rw[he]at hv;simp only[aP]at hv;obtain⟨l,b,k1,k2,rfl⟩:=hv;split at hs
  ·rename_i since sn last hg;obtain⟨l',b',mo,g1,g2,g3,g4,g5⟩:=h.st nm _ _ k1 hg;rw[k1]at g1;cases g1;rw[k2]at g2;cases g2;simp only at g5;subst g5;cases hs;have hobj:=jJ (P:=E.P) g4 (by intro _ _ _ hh;cases hh)
   refine hU.of (v:=.tuple #[.bool false]) h (bP ?_) ?_
   ·simp only[Instr.next,aY,hobj,aM,bO]
   ·simp only[aP];exact⟨_,rfl,aX.cons (by simp only[aP]) aX.nil⟩
  ·rename_i m since sn last hg;obtain⟨l',b',mo,g1,g2,g3,g4,g5⟩:=h.st nm _ _ k1 hg;rw[k1]at g1;cases g1;rw[k2]at g2;cases g2;obtain⟨lm,bm,m1,m2,rfl⟩:=g5;have hobj:=jJ (P:=E.P) g4 (by intro _ _ _ hh;cases hh)
   split at hs
   ·rename_i es c hgm;obtain⟨lm',bm',ents,q1,q2,q3,q4,q5⟩:=h.st m _ _ m1 hgm;rw[m1]at q1;cases q1;rw[m2]at q2;cases q2;have hobjm:=jJ (P:=E.P) q4 (by intro _ _ _ hh;cases hh)
    cases hcond:(sn.isEmpty||es.isEmpty||es.any (fun e=>Nat.blt e.2.2 last))<;>rw[hcond]at hs
    ·cases hs
    simp only[aS]at hs;have hempty:ents.isEmpty=es.isEmpty:=by
     have hl:ents.toList.length=es.length:=MEs.length q5;rw[dC];simp only[Array.isEmpty_iff,List.isEmpty_iff,←List.length_eq_zero_iff,←hl];simp
    have hguard:(!sn.toArray.isEmpty && !ents.isEmpty&&ents.all fun x=>decide (x.born≥last))=false:=by
     have hany:es.any (fun e=>Nat.blt e.2.2 last)=ents.toList.any (fun e=>Nat.blt e.born last):=
      MEs.any (p:=fun e=>Nat.blt e.2.2 last) (q:=fun e=>Nat.blt e.born last) (fun k v n e hh=>by simp only[hh]) q5
     have hall:ents.all (fun x=>decide (x.born≥last)) = !(ents.toList.any (fun e=>Nat.blt e.born last)):=by
      rw[←Array.all_toList,dC];simp[Nat.blt_eq]
     rw[hall,←hany,hempty,show sn.toArray.isEmpty=sn.isEmpty by simp]
     revert hcond;cases sn.isEmpty<;>cases es.isEmpty<;>cases es.any (fun e=>Nat.blt e.2.2 last)<;>simp
    have hleft:=MEs.filter (p:=fun e=>!sn.any (Nat.beq e.2.2)) (q:=fun e=>!sn.toArray.contains e.born) (fun k v n e hh=>by
     subst hh;show(!sn.any (Nat.beq e.born)) = !sn.toArray.contains e.born;rw[dC];simp only[Bool.not_eq_true',List.any_eq_false,Nat.beq_eq,List.contains_toArray,List.elem_eq_mem,bX];exact⟨fun g hm=>g _ hm rfl,fun g x hx e=>g (e▸hx)⟩) q5
    have hfl:(ents.filter fun e=>!sn.toArray.contains e.born).toList=ents.toList.filter fun e=>!sn.toArray.contains e.born:=by simp
    rw[←hfl]at hleft;generalize hLe:ents.filter (fun e=>!sn.toArray.contains e.born)=left at hleft
    obtain⟨left⟩:=left;simp only at hleft;split at hs
    ·rename_i hnil;rw[hnil]at hleft;simp only[MEs]at hleft;subst hleft;cases hs;refine hU.of (v:=.tuple #[.bool false]) h (bP ?_) ?_
     ·simp only[Instr.next,aY,hobj,aM,hobjm,hguard,cN,eV,hLe,bO];simp[choose,Sem.run,Question.forced]
     ·simp only[aP];exact⟨_,rfl,aX.cons (by simp only[aP]) aX.nil⟩
    ·rename_i kd vd bn hone;rw[hone]at hleft;simp only[MEs]at hleft;obtain⟨e,r',rfl,r1,r2,r3,rfl⟩:=hleft;cases hlt:Nat.blt bn since<;>rw[hlt]at hs
     ·cases hs
     rw[Nat.blt_eq]at hlt;simp only[aS,aC,dZ]at hs;obtain⟨rfl,rfl⟩:=hs;have hb:b<w.heap.size:=(h.own nm l b k1 k2).2
     let w':World:={ w with heap:=w.heap.setIfInBounds b (.mapIter (some bm) since (sn.toArray.push e.born) c) }
     obtain⟨hx,hR,hf⟩:=h.write nm (.mit (some m) since (sn++[bn]) c) l b (w':=w') (x':={ x with s:=sset x.s nm (.mit (some m) since (sn++[bn]) c) }) k1 k2 (by rw[hg];rfl) (by simp[w'])
      (fun k hk=>by simp only[w'];rw[dA (fun e=>hk e.symm)]) (fun n=>rfl) (fun n=>by rw[aN]) rfl rfl
      (fun hx=>⟨l,b,some bm,k1,k2,g3,by simp[w',hb,r3],lm,bm,m1,m2,rfl⟩)
     refine⟨.tuple #[.bool true,e.key,e.val],w',μ,.inl (bP ?_),?_,hR,hf⟩
     ·have hset:=vC (P:=E.P) (o':=.mapIter (some bm) since (sn.toArray.push e.born) c) g4 (by intro _ _ _ hh;cases hh)
      have h1:(#[e].filter fun x=>decide (x.born<since)) = #[e]:=by simp[r3,hlt]
      have h2':(#[e].filter fun x=>decide (x.born≥since)) = #[]:=by simp[r3];omega
      simp only[Instr.next,aY,hobj,aM,hobjm,hguard,cN,eV,hLe,bO,show(⟨[e]⟩:Array MapEntry) = #[e]from rfl,h1,h2']
      simp only[choose,Sem.run,Question.forced,aY,bO,Array.isEmpty_eq_false_iff,show(#[e].isEmpty)=false from rfl,cN,eV,Array.append_empty,Array.empty_append,Array.size_map,show(#[e]:Array MapEntry).size=1 from rfl,aJ,aV,if_true,show(#[some e]:Array (Option MapEntry)).size=1 from rfl,List.map_toArray,bW,eX,List.getElem?_toArray,aT,hset,aM,w']
     ·simp only[aP];exact⟨_,rfl,aX.cons (by simp only[aP]) (aX.cons (aP.mono hx _ _ (fV.refl _) r1) (aX.cons (aP.mono hx _ _ (fV.refl _) r2) aX.nil))⟩
    ·cases hs
   ·cases hs
  ·cases hs
 ·cases hs
theorem op_ent(h:Rel E M0 w0 N μ a w x){o:Operand}{ar:Arg}(h2:cS o=some ar){d:D}{x':AS}
  (hs:step E.G (.ent ar) x=some (d,x')):gd E M0 w0 N μ w x a d x' w (do pure (.value (←Instr.entry (a.eval o)))):=by
 have hv:=cP h h2;generalize a.eval o=v at *;simp only[wK,pD]at hs;split at hs
 ·rename_i nm he;rw[he]at hv;simp only[aP]at hv;obtain⟨l,b,k1,k2,rfl⟩:=hv;split at hs
  ·rename_i m since sn last hg;obtain⟨l',b',mo,g1,g2,g3,g4,g5⟩:=h.st nm _ _ k1 hg;rw[k1]at g1;cases g1;rw[k2]at g2;cases g2;obtain⟨lm,bm,m1,m2,rfl⟩:=g5;have hobj:=jJ (P:=E.P) g4 (by intro _ _ _ hh;cases hh)
   split at hs
   ·rename_i es c bn hgm hlast;obtain⟨lm',bm',ents,q1,q2,q3,q4,q5⟩:=h.st m _ _ m1 hgm;rw[m1]at q1;cases q1;rw[m2]at q2;cases q2;have hobjm:=jJ (P:=E.P) q4 (by intro _ _ _ hh;cases hh)
    cases hcond:Nat.beq c last<;>rw[hcond]at hs
    ·cases hs
    have hcl:=aR hcond;subst hcl;simp only[aS]at hs;have hleft:=MEs.filter (p:=fun e=>Nat.beq e.2.2 bn) (q:=fun e=>e.born==bn) (fun k v n e hh=>by subst hh;rw[dC];simp) q5
    split at hs
    ·rename_i kd vd n0 rest hone;rw[hone]at hleft;simp only[MEs]at hleft;obtain⟨e,r',hr',r1,r2,r3,r4⟩:=hleft;cases hs;refine hU.of (v:=.tuple #[e.key,e.val]) h (bP ?_) ?_
     ·have hfind:ents.find? (·.born==bn)=some e:=by
       rw[←Array.find?_toList,←List.head?_filter,hr'];rfl
      have hback:sn.toArray.back?=some bn:=by simp[hlast]
      simp only[Instr.entry,aY,hobj,aM,hback,hobjm,bne_self_eq_false,cN,eV,bO,hfind]
     ·simp only[aP];exact⟨_,rfl,aX.cons r1 (aX.cons r2 aX.nil)⟩
    ·cases hs
   ·cases hs
  ·cases hs
 ·cases hs
theorem op_tas(h:Rel E M0 w0 N μ a w x){s t:TypeId}{td:TypeDesc}(hu:E.P.underlying t=some td)(hni:∀ms,td≠.interface ms){z:D}(hz:iR E.P t=some z){ok:Bool}{o:Operand}{ar:Arg}
  (h2:cS o=some ar) {d:D} {x':AS} (hs:step E.G (.tas t z ok ar) x=some (d,x')) :
  gd E M0 w0 N μ w x a d x' w (do pure (.value (←Instr.typeAssert (a.eval o) s t ok))):=by
 have hv:=cP h h2;generalize a.eval o=v at *;simp only[iR,aB,aA]at hz;obtain⟨i,hi,zv,hzv,hz⟩:=hz;have hzr:aP (Mm M0 μ) w μ z zv:=kC _ _ _ hz;have hzz:(zeroValue t).run E.P w = .ok zv w:=by simp[zeroValue,eE hi,hzv]
 have hno:aP (Mm M0 μ) w μ (.tup (xY z++[.bool false])) (.tuple #[zv,.bool false]):=by
  simp only[aP,xY];exact⟨_,rfl,aX.cons hzr (aX.cons (by simp only[aP]) aX.nil)⟩
 simp only[wE,oY]at hs;split at hs
 ·rename_i he;rw[he]at hv;simp only[aP]at hv;subst hv;cases ok
  ·cases hs
  ·cases hs;refine hU.of (v:=.tuple #[zv,.bool false]) h (bP ?_) hno;cases td<;>first
    | (exact absurd rfl (hni _);done)
    | simp only[Instr.typeAssert,aY,aZ hu,aM,if_true,hzz,bO]
 ·rename_i u dd he;rw[he]at hv;simp only[aP]at hv;obtain⟨xv,rfl,hxv⟩:=hv;cases hcond:Nat.beq u t<;>rw[hcond]at hs
  ·have hne:u≠t:=fun e=>by subst e;simp at hcond
   cases ok
   ·cases hs
   ·cases hs;refine hU.of (v:=.tuple #[zv,.bool false]) h (bP ?_) hno;cases td<;>first
     | (exact absurd rfl (hni _);done)
     | simp only[Instr.typeAssert,aY,aZ hu,aM,aD hne,if_true,hzz,bO]
  ·have he:=aR hcond;subst he;simp only[aS,aC,dZ]at hs;obtain⟨rfl,rfl⟩:=hs;refine hU.of (v:=if ok then .tuple #[xv,.bool true]else xv) h (bP ?_) ?_
   ·cases td<;>first
     | (exact absurd rfl (hni _);done)
     | simp only[Instr.typeAssert,aY,aZ hu,aM,if_true,bO]
   ·cases ok
    ·simpa using hxv
    ·simp only[aS,if_true,aP,xY];exact⟨_,rfl,aX.cons hxv (aX.cons (by simp only[aP]) aX.nil)⟩
 ·cases hs
end
theorem find_idb{fn:Func}(h:fn.name = "internal/bytealg.IndexByteString"):Extern.find fn=some Extern.BytealgIndexByte.indexByte:=by
 unfold Extern.find;rw[h];kernel_rfl
theorem isRow_run{P:Program}{f:Nat}{name:String}(h:isRow P f name=true){e:Array Value→Sem Value}(he:∀fn:Func,fn.name=name→Extern.find fn=some e)(args:Array Value)(w:World):
  (callFunc f args).run P w=((e args).run P w).andThen fun v w'=>.ok (.value v) w':=by
 unfold isRow at h;split at h
 ·rename_i fn hf;simp only[bE,Bool.not_eq_true',beq_iff_eq,Option.isNone_iff_eq_none]at h;obtain⟨h1,h2,h3,h4⟩:=h;exact run_callFunc_extern hf h4 (by rw[h1];rfl) h3 (he fn h2) args w
 ·cases h
theorem idxB_eq(c:UInt8):∀l:List UInt8,idxB c l=Lib.indexByte l c
 | []=>rfl
 | b::r=>by
  simp only[idxB,Lib.indexByte,idxB_eq c r];have h1:=Lib.indexByte_ge r c;cases hb:b==c
  ·simp only[cF,cN,eV];rcases hn:Lib.indexByte r c with n|n
   ·have h2:((Int.ofNat n) == -1)=false:=by
     simp only[beq_eq_false_iff_ne,gW];intro e;cases e
    rw[h2];rfl
   ·rw[hn,Int.negSucc_eq]at h1;have h0:n=0:=by omega
    subst h0;rfl
  ·rfl
section
variable {E:Env} {M0:Nat→Prop} {w0:World} {N:Nat} {μ:Mu} {M:Nat→Prop} {a:Act} {w:World} {x:AS}
theorem run_builtin0{P:Program}{ρ:Operand→Value}{o:Oper}{c:Call}{b:Builtin}(ho:o.op = .call c)(hb:c.callee = .builtin b)(w:World):
  ∃cs,(execOp ρ o).run P w=(builtin b c.argTypes o.type cs (c.args.map ρ)).run P w:=by
 refine⟨c.args.map fun | .const _=>true|_=>false,?_⟩
 simp only[execOp,ho,resolve,hb,aY,bO,aM,invoke];rfl
theorem args_x(h:Rel E M0 w0 N μ a w x){l:Array Operand}{az:List Arg}(hc:lQ l=some az):aX (Mm M0 μ) w μ (az.map (·.ev E.G x.t)) (l.map a.eval).toList:=by
 rw[Array.toList_map];exact xV h hc
theorem run_row_op{P:Program}{ρ:Operand→Value}{o:Oper}{c:Call}{f:Nat}(ho:o.op = .call c)(hc:c.callee = .value (.func f))(hρ:ρ (.func f) = .func (.func f) #[] #[])(w:World):
  (execOp ρ o).run P w=(callFunc f (c.args.map ρ)).run P w:=by
 simp only[execOp,ho,resolve,hc,hρ,Deferred.ofValue,aY,bO,aM,invoke,Array.empty_append,Array.append_empty]
theorem vals2{d e:D}{vs:Array Value}(h:aX (Mm M0 μ) w μ [d,e] vs.toList):∃v u,vs = #[v,u]∧aP (Mm M0 μ) w μ d v∧aP (Mm M0 μ) w μ e u:=by
 simp only[aX]at h;obtain⟨v,r,h1,h2,u,r',rfl,h3,rfl⟩:=h;exact⟨v,u,by apply Array.ext';simp[h1],h2,h3⟩
theorem look_row(h:Rel E M0 w0 N μ a w x){o:Oper}{c:Call}{f:Nat}(ho:o.op = .call c)(hc:c.callee = .value (.func f)){az:List Arg}(hl:lQ c.args=some az){k:XL}{name:String}(hrow:isRow E.P f name=true)
  {e:Array Value→Sem Value} (he:∀fn:Func,fn.name=name→Extern.find fn=some e) {d:D} {x':AS} (hs:step E.G (.xl k az) x=some (d,x'))
  (hrun:∀l vs,xlook k l x.s=some d→aX (Mm M0 μ) w μ l vs.toList→∃v,(e vs).run E.P w = .ok v w∧aP (Mm M0 μ) w μ d v):gd E M0 w0 N μ w x a d x' w (execOp a.eval o):=by
 simp only[wD,sI,aG,dZ]at hs;obtain⟨d',hk,rfl,rfl⟩:=hs;obtain⟨v,hr,hv⟩:=hrun _ _ hk (args_x h hl);refine hU.of h (v:=v) ?_ hv;rw[run_row_op ho hc rfl,isRow_run hrow he,hr];rfl
theorem xl_idb{l:List D}{s:St}{d:D}{vs:Array Value}(hk:xlook .idb l s=some d)(hv:aX (Mm M0 μ) w μ l vs.toList){P:Program}:
  ∃v,(Extern.BytealgIndexByte.indexByte vs).run P w = .ok v w∧aP (Mm M0 μ) w μ d v:=by
 unfold xlook at hk;split at hk
 all_goals try contradiction
 cases hk;obtain⟨v,u,rfl,g1,g2⟩:=vals2 hv;simp only[aP]at g1 g2;subst g1 g2;exact⟨_,Lib.run_indexByteString _ _ _,by simp only[aP,idxB_eq]⟩
theorem row_sound(h:Rel E M0 w0 N μ a w x){o:Oper}{c:Call}{f:Nat}(ho:o.op = .call c)(hcal:c.callee = .value (.func f)){ao:AOp}(hc:cRow E.P f c.args=some ao){d:D}{x':AS}(hs:step E.G ao x=some (d,x')):
  gd E M0 w0 N μ w x a d x' w (execOp a.eval o):=by
 unfold cRow at hc;cases h1:isRow E.P f "internal/bytealg.IndexByteString"<;>rw[h1]at hc
 rotate_left
 ·simp only[aS,aG]at hc;obtain⟨az,hl,rfl⟩:=hc;exact look_row h ho hcal hl h1 (fun fn=>find_idb) hs fun l vs hk hv=>xl_idb hk hv
 ·cases hc
theorem ext_sound(h:Rel E M0 w0 N μ a w x){o:Oper}{ao:AOp}(hc:cExt E.P o=some ao){d:D}{x':AS}(hs:step E.G ao x=some (d,x')):
  gd E M0 w0 N μ w x a d x' w (execOp a.eval o):=by
 unfold cExt at hc;split at hc
 ·rename_i c ho;split at hc
  ·rename_i f hcal;exact row_sound h ho hcal hc hs
  ·cases hc
 ·cases hc
end
theorem cExt_kind{P:Program}{o:Oper}{op:AOp}(h:cExt P o=some op):((∃k l,op = .xl k l)∨∃k l,op = .xa k l)∧∀c,o.op≠.defer c:=by
 unfold cExt cRow at h;split at h
 ·rename_i c ho;refine⟨?_,fun _ e=>by rw[ho]at e;cases e⟩
  repeat' (first|contradiction|(split at h)|(simp only[aG,cond_eq_ite]at h)|(obtain⟨_,_,h⟩:=h)|(subst h;exact .inl ⟨_,_,rfl⟩))
  exact .inl ⟨_,_,rfl⟩
 ·cases h
section
variable {E:Env} {M0:Nat→Prop} {w0:World} {N:Nat} {μ:Mu} {M:Nat→Prop} {a:Act} {w:World} {x:AS}
theorem op_builtin(h:Rel E M0 w0 N μ a w x){o:Oper}{c:Call}{b:Builtin}(ho:o.op = .call c)(hb:c.callee = .builtin b){ao:AOp}(hc:xT E.P o=some ao){d:D}{x':AS}
  (hs:step E.G ao x=some (d,x')):gd E M0 w0 N μ w x a d x' w (execOp a.eval o):=by
 unfold gd;obtain⟨cs,hrb⟩:=run_builtin0 (P:=E.P) (ρ:=a.eval) ho hb w;rw[hrb];clear hrb;simp only[xT,ho,hb]at hc;obtain⟨callee,args,ats⟩:=c;obtain⟨args⟩:=args;obtain⟨ats⟩:=ats;simp only at hb hc ⊢;have hm:(⟨args⟩:Array Operand).map a.eval=⟨args.map a.eval⟩:=by apply Array.ext';simp
 rw[hm];clear hm ho;subst hb;split at hc
 · -- len
  rename_i y t;split at hc
  ·rename_i hu;simp only[aB,aA,aC]at hc;obtain⟨ar,h2,rfl⟩:=hc;exact op_len (ty:=o.type) h h2 (by simpa using hu) hs
  ·rename_i e hu;simp only[aB,aA,aC]at hc;obtain⟨ar,h2,rfl⟩:=hc;exact op_len (ty:=o.type) h h2 (by simpa using⟨e,hu⟩) hs
  ·rename_i n e hu;simp only[aC]at hc;subst hc;simp only[stq,Arg.ev,aC,dZ]at hs;obtain⟨rfl,rfl⟩:=hs;exact hU.of (v:=.int .i64 n) h (bP (by simp[Builtin.len_,aZ hu,goInt])) (by show aP _ _ _ (.int .i64 n) _;simp only[aP])
  ·rename_i k e hu;simp only[aB,aA,aC]at hc;obtain⟨ar,h2,rfl⟩:=hc;exact op_mln (ty:=o.type) h hu h2 hs
  ·cases hc
 · -- cap
  rename_i y t;split at hc
  ·rename_i e hu;simp only[aB,aA,aC]at hc;obtain⟨ar,h2,rfl⟩:=hc;exact op_cap (ty:=o.type) h hu h2 hs
  ·cases hc
 · -- append
  rename_i y z t u;split at hc
  ·rename_i e e' hu hu';simp only[aB,aA]at hc;obtain⟨i,hi,j,hj,zv,hz,ar,h2,pr,h3,hc⟩:=hc;cases hcond:(Nat.beq i.size j.size && !Nat.beq i.size 0&&Nat.beq zv.cells.size i.size)
   ·rw[hcond]at hc;cases hc
   rw[hcond]at hc;simp only[bE,Bool.not_eq_true']at hcond;simp only[aS,aC]at hc;subst hc;exact op_app h ⟨hu,.inl ⟨e',hu'⟩,hi,hz,aR hcond.2⟩ hcond.1.2 h2 h3 hs o.type
  ·rename_i e hu hu';simp only[aB,aA]at hc;obtain⟨i,hi,zv,hz,ar,h2,pr,h3,hc⟩:=hc;cases hcond:(Nat.beq i.size 1&&Nat.beq zv.cells.size 1)<;>rw[hcond]at hc
   ·cases hc
   simp only[bE]at hcond;have e1:=aR hcond.1;have e2:=aR hcond.2;simp only[aS,aC]at hc;subst hc;exact op_app h ⟨hu,.inr hu',hi,hz,by omega⟩ (by rw[e1];rfl) h2 h3 hs o.type
  ·cases hc
 · -- copy
  rename_i y z t u;split at hc
  ·rename_i e e' hu hu';simp only[aB,aA]at hc;obtain⟨i,hi,j,hj,ar,h2,pr,h3,hc⟩:=hc;cases hcond:(Nat.beq i.size j.size)<;>rw[hcond]at hc
   ·cases hc
   simp only[aS,aC]at hc;subst hc;exact op_copy (ty:=o.type) h hu (by simp[iE,hi]) h2 h3 hs
  ·rename_i e hu hu';simp only[aB,aA]at hc;obtain⟨i,hi,ar,h2,pr,h3,hc⟩:=hc;cases hcond:(Nat.beq i.size 1)<;>rw[hcond]at hc
   ·cases hc
   have e1:=aR hcond;simp only[aS,aC]at hc;subst hc;exact op_copy (ty:=o.type) h hu (by simp[iE,hi,e1]) h2 h3 hs
  ·cases hc
 · -- min
  simp only[aB,aA,aC]at hc;obtain⟨ar,h2,pr,h3,rfl⟩:=hc;exact op_mm (mx:=false) (ts:=⟨ats⟩) (ty:=o.type) h h2 h3 hs
 · -- max
  simp only[aB,aA,aC]at hc;obtain⟨ar,h2,pr,h3,rfl⟩:=hc;exact op_mm (mx:=true) (ts:=⟨ats⟩) (ty:=o.type) h h2 h3 hs
 ·cases hc;simp only[step_rcv,reduceCtorEq]at hs
 ·cases hc
theorem op_sound0(h:Rel E M0 w0 N μ a w x){o:Oper}{ao:AOp}(hc:xT E.P o=some ao){d:D}{x':AS}(hs:step E.G ao x=some (d,x')):
  gd E M0 w0 N μ w x a d x' w (execOp a.eval o):=by
 have hcase:∀op,o.op=op→gd E M0 w0 N μ w x a d x' w (execOp a.eval o):=by
  intro op ho;have hc':=hc;simp only[xT,ho]at hc;cases op<;>(try simp only[reduceCtorEq]at hc)
  case move y=>
   simp only[aB,aA,aC]at hc;obtain⟨ar,h2,rfl⟩:=hc;simp only[execOp,ho];exact op_mv h h2 hs
  case assign y=>
   simp only[aB,aA,aC]at hc;obtain⟨ar,h2,rfl⟩:=hc;simp only[execOp,ho];exact op_mv h h2 hs
  case pick c p q=>
   simp only[aB,aA,aC]at hc;obtain⟨c',h1,p',h2,q',h3,rfl⟩:=hc;simp only[execOp,ho];exact op_pick h h1 h2 h3 hs
  case alloc t=>
   simp only[aB,aA,aC]at hc;obtain⟨zd,hz,rfl⟩:=hc;simp only[iR,aB,aA]at hz;obtain⟨i,hi,v,hv,hz⟩:=hz;simp only[execOp,ho];refine op_new (v:=v) (e:=t) h (by simp only[Arg.ev];exact kC _ _ _ hz) hs ?_
   simp[Instr.alloc,zeroValue,eE hi,hv,newVar,newRow]
  case box t y=>
   simp only[aB,aA,aC]at hc;obtain⟨ar,h2,rfl⟩:=hc;simp only[execOp,ho];refine op_new (v:=a.eval y) (e:=t) h (cP h h2) hs ?_;simp[Instr.box,newVar,newRow]
  case build t ps=>
   simp only[aB,aA]at hc;obtain⟨zd,hz,cells,hcl,hc⟩:=hc;simp only[execOp,ho];split at hc
   ·rename_i fs hu;simp only[aA]at hc;obtain⟨l,hl,hc⟩:=hc;cases hall:(fs.all fun f=>(E.P.info? f.type).isSome)<;>rw[hall]at hc
    ·cases hc
    simp only[aS,aC]at hc;subst hc;exact op_bld_struct h hz hcl hu hl hall hs
   ·rename_i n e hu;simp only[aA,aC]at hc;obtain⟨s,hsz,l,hl,rfl⟩:=hc;exact op_bld_array h hz hcl hu hsz hl hs
   ·cases hc
  case buildSlice t len ps=>
   simp only[execOp,ho];split at hc
   ·rename_i e hu;simp only[aB,aA]at hc;obtain⟨s,hsz,zd,hz,l,hl,zc,hzc,hc⟩:=hc;cases hcond:(Nat.ble (len*s) 16777216&&Nat.beq zc.length s)<;>rw[hcond]at hc
    ·cases hc
    simp only[bE]at hcond;simp only[aS,aC]at hc;subst hc;exact op_bsl h hu hsz hz hzc hcond.1 hcond.2 hl hs
   ·cases hc
  case load t y=>
   simp only[aB,aA,aC]at hc;obtain⟨sz,h1,ar,h2,rfl⟩:=hc;simp only[execOp,ho];exact op_ld h h1 h2 hs
  case store t y v=>
   simp only[aB,aA,aC]at hc;obtain⟨n,h1,ar,h2,pr,h3,rfl⟩:=hc;simp only[execOp,ho];exact op_st h h1 h2 h3 hs
  case nilCheck y=>
   simp only[aB,aA,aC]at hc;obtain⟨ar,h2,rfl⟩:=hc;exact op_nilc h ho h2 hs
  case binOp op t y z t'=>
   simp only[execOp,ho];cases hn:isNumT E.P t<;>rw[hn]at hc
   ·simp only[cF]at hc;cases op<;>simp only[reduceCtorEq]at hc
    ·simp only[aB,aA,aC]at hc;obtain⟨k,hk,ar,h2,pr,h3,rfl⟩:=hc;exact op_cmp (neg:=false) h hk h2 h3 hs
    ·simp only[aB,aA,aC]at hc;obtain⟨k,hk,ar,h2,pr,h3,rfl⟩:=hc;exact op_cmp (neg:=true) h hk h2 h3 hs
   ·simp only[aS,aB,aA,aC]at hc;obtain⟨ar,h2,pr,h3,rfl⟩:=hc;exact op_bin h h2 h3 hs
  case unOp op t y=>
   simp only[aB,aA,aC]at hc;obtain⟨ar,h2,rfl⟩:=hc;simp only[execOp,ho];exact op_un h h2 hs
  case convert s t y=>
   simp only[execOp,ho];split at hc
   ·rename_i k k' hu hd;simp only[aB,aA,aC]at hc;obtain⟨ar,h2,rfl⟩:=hc;exact op_cvI h hu hd h2 hs
   ·rename_i k hu hd;simp only[aB,aA,aC]at hc;obtain⟨ar,h2,rfl⟩:=hc;exact op_cvN h hu hd (.inl ⟨k,rfl⟩) h2 hs
   ·rename_i hu hd;simp only[aB,aA,aC]at hc;obtain⟨ar,h2,rfl⟩:=hc;exact op_cvN h hu hd (.inr rfl) h2 hs
   ·rename_i e hu hd;split at hc
    ·rename_i he;cases hcond:(E.P.cellsOf e==1)<;>rw[hcond]at hc
     ·cases hc
     simp only[aS,aB,aA,aC]at hc;obtain⟨ar,h2,rfl⟩:=hc;exact op_cvB h hu hd he h2 hs
    ·cases hc
   ·rename_i e hu hd;split at hc
    ·rename_i he;simp only[aB,aA,aC]at hc;obtain⟨ar,h2,rfl⟩:=hc;exact op_cvS h hu hd he h2 hs
    ·cases hc
   ·cases hc
  case makeInterface t y=>
   simp only[execOp,ho];split at hc
   ·cases hc
   ·rename_i ds hn hu;simp only[aB,aA,aC]at hc;obtain⟨ar,h2,rfl⟩:=hc;exact op_mkif h hu (fun ms e=>hn ms e) h2 hs
   ·cases hc
  case makeFunc f p q=>
   simp only[aB,aA,aC]at hc;obtain⟨p',h2,q',h3,rfl⟩:=hc;simp only[execOp,ho];exact op_mkfn h h2 h3 hs
  case makeSlice t l c=>
   simp only[execOp,ho];split at hc
   ·rename_i e hu;simp only[aB,aA]at hc;obtain⟨i,hi,zd,hz,zc,hzc,lr,h2,cr,h3,hc⟩:=hc;cases hcond:(Nat.beq zc.length i.size)<;>rw[hcond]at hc
    ·cases hc
    simp only[aS,aC]at hc;subst hc;exact op_mks h hu hi hz hzc hcond h2 h3 hs
   ·cases hc
  case slice t y l hi m=>
   simp only[execOp,ho];split at hc
   ·rename_i hu;cases m with
    | none=>
     simp only[aB,aA,aC]at hc;obtain⟨ar,h2,l',hl,h',hh,rfl⟩:=hc;exact op_slS h hu h2 hl hh hs
    | some m=>cases hc
   ·rename_i e hu;simp only[aB,aA]at hc;obtain⟨s,hsz,hc⟩:=hc;split at hc
    ·cases hc
    ·rename_i hno;simp only[aA,aC]at hc;obtain⟨ar,h2,l',hl,h',hh,m',hm,rfl⟩:=hc;refine op_slV h hu hsz h2 hl hh hm ?_ hs;rintro⟨rfl,hm'⟩;have e1:=lE hh;cases m with
     | none=>simp[jM]at hm;exact hm' hm.symm
     | some m=>exact hno m e1 rfl
   ·rename_i n e hu;simp only[aB,aA]at hc;obtain⟨s,hsz,hc⟩:=hc;split at hc
    ·cases hc
    ·rename_i hno;simp only[aA,aC]at hc;obtain⟨ar,h2,l',hl,h',hh,m',hm,rfl⟩:=hc;refine op_slA h hu hsz h2 hl hh hm ?_ hs;rintro⟨rfl,hm'⟩;have e1:=lE hh;cases m with
     | none=>simp[jM]at hm;exact hm' hm.symm
     | some m=>exact hno m e1 rfl
   ·cases hc
  case fieldAddr t y i=>
   simp only[execOp,ho];split at hc
   ·rename_i fs hu;simp only[aB,aA]at hc;obtain⟨f,hf,s,hsz,ar,h2,hc⟩:=hc;cases hcond:Nat.beq s 0<;>rw[hcond]at hc
    ·simp only[cF,aC]at hc;subst hc;exact op_fa h hu hf hsz hcond h2 hs
    ·cases hc
   ·cases hc
  case field t y i=>
   simp only[execOp,ho];split at hc
   ·rename_i fs hu;simp only[aB,aA,aC]at hc;obtain⟨f,hf,sz,hsz,ar,h2,rfl⟩:=hc;exact op_fld h hu hf hsz h2 hs
   ·cases hc
  case indexAddr t y i=>
   simp only[execOp,ho];split at hc
   ·rename_i n e hu;simp only[aB,aA,aC]at hc;obtain⟨s,hsz,ar,h2,pr,h3,rfl⟩:=hc;exact op_iaA h hu hsz h2 h3 hs
   ·rename_i e hu;simp only[aB,aA,aC]at hc;obtain⟨s,hsz,ar,h2,pr,h3,rfl⟩:=hc;exact op_iaS h hu hsz h2 h3 hs
   ·cases hc
  case index t y i=>
   simp only[execOp,ho];split at hc
   ·rename_i n e hu;simp only[aB,aA,aC]at hc;obtain⟨s,hsz,bb,hag,ar,h2,pr,h3,rfl⟩:=hc;exact op_ixA h hu hsz hag h2 h3 hs
   ·rename_i hu;simp only[aB,aA,aC]at hc;obtain⟨ar,h2,pr,h3,rfl⟩:=hc;exact op_ixS h hu h2 h3 hs
   ·cases hc
  case range t y=>
   simp only[execOp,ho];split at hc
   ·rename_i hu;simp only[aB,aA,aC]at hc;obtain⟨ar,h2,rfl⟩:=hc;exact op_rng h hu h2 hs
   ·rename_i k e hu;simp only[aB,aA,aC]at hc;obtain⟨ar,h2,rfl⟩:=hc;exact op_rgm h hu h2 hs
   ·cases hc
  case next y s=>
   simp only[execOp,ho];cases s
   ·simp only[cF,aB,aA,aC]at hc;obtain⟨ar,h2,rfl⟩:=hc;exact op_nxm h h2 hs
   ·simp only[aS,aB,aA,aC]at hc;obtain⟨ar,h2,rfl⟩:=hc;exact op_next h h2 hs
  case extract y i=>
   simp only[aB,aA,aC]at hc;obtain⟨ar,h2,rfl⟩:=hc;simp only[execOp,ho];exact op_ext h h2 hs
  case call c=>
   cases hcal:c.callee with
   | builtin b=>exact op_builtin h ho hcal hc' hs
   | value f=>
    rw[hcal]at hc;cases f with
    | func f=>
     simp only[aB,aA]at hc;obtain⟨fn,hfn,az,_,hc⟩:=hc;cases hcond:(fn.name == "runtime.NumGoroutine" || fn.body.isNone)<;>rw[hcond]at hc
     ·simp only[cF,aC]at hc;subst hc;simp[stq]at hs
     ·cases hc
    | _=>
     simp only[aB,aA,aC]at hc;obtain⟨ar,_,az,_,rfl⟩:=hc;simp[stq]at hs
   | invoke r m=>
    rw[hcal]at hc;simp only[aB,aA,aC]at hc;obtain⟨ar,_,az,_,rfl⟩:=hc;simp only[step_inv,reduceCtorEq]at hs
  case panic y=>
   simp only[aB,aA,aC]at hc;obtain⟨ar,_,rfl⟩:=hc;simp only[step_pan,reduceCtorEq]at hs
  case defer c=>
   split at hc
   ·simp only[aB,aA,aC]at hc;obtain⟨ar,_,az,_,rfl⟩:=hc;simp only[step_dfr,reduceCtorEq]at hs
   ·cases hc
  case makeMap t r=>
   cases r with
   | none=>
    simp only[aC]at hc;subst hc;simp only[execOp,ho];exact op_mkm h hs
   | some r=>simp only[reduceCtorEq]at hc
  case lookup t y i ok=>
   split at hc
   ·rename_i k e hu;simp only[aB,aA,aC]at hc;obtain⟨z,hz,kt,hk,ar,h2,pr,h3,rfl⟩:=hc;simp only[execOp,ho];exact op_mlk h hu hz hk h2 h3 hs
   ·cases hc
  case mapUpdate t y i v=>
   split at hc
   ·rename_i k e hu;simp only[aB,aA,aC]at hc;obtain⟨kt,hk,ar,h2,pr,h3,qr,h4,rfl⟩:=hc;simp only[execOp,ho];exact op_mup h hu hk h2 h3 h4 hs
   ·cases hc
  case insert t y i v=>
   split at hc
   ·rename_i k e hu;simp only[aB,aA,aC]at hc;obtain⟨kt,hk,ar,h2,pr,h3,qr,h4,rfl⟩:=hc;simp only[execOp,ho];exact op_mup h hu hk h2 h3 h4 hs
   ·cases hc
  case entry y=>
   simp only[aB,aA,aC]at hc;obtain⟨ar,h2,rfl⟩:=hc;simp only[execOp,ho];exact op_ent h h2 hs
  case typeAssert y s t ok=>
   split at hc
   ·cases hc
   ·rename_i td hni hu;simp only[aB,aA,aC]at hc;obtain⟨z,hz,ar,h2,rfl⟩:=hc;simp only[execOp,ho];exact op_tas h hu (fun ms e=>hni ms e) hz h2 hs
   ·cases hc
 exact hcase o.op rfl
theorem op_sound(h:Rel E M0 w0 N μ a w x){o:Oper}{ao:AOp}(hc:cOp E.P o=some ao){d:D}{x':AS}(hs:step E.G ao x=some (d,x')):
  gd E M0 w0 N μ w x a d x' w (execOp a.eval o):=by
 unfold cOp at hc;split at hc
 ·rename_i op he;cases hc;exact ext_sound h he hs
 ·exact op_sound0 h hc hs
end
def fat(b:Frame)(a:Act)(todo:List Item):Frame:={ b with tmps:=a.tmps,defers:=a.defers,todo:=todo,mode:=.run }
theorem fat_eval(b:Frame)(a:Act)(todo:List Item):(fat b a todo).eval=a.eval:=by
 funext x;cases x<;>rfl
theorem mN(b:Frame)(a:Act)(ops:Array Oper)(i:Nat)(rest:List Nat)(k:List Item)(v:Value):
  (fat b a (.inRegion ops (i::rest)::k)).finish v=fat b (a.put ((ops[i]?).bind (·.dst)) v) (.inRegion ops rest::k):=by
 cases h:(ops[i]?).bind (·.dst)<;>simp[Frame.finish,fat,Act.put,h]
theorem fat_raise(b:Frame)(a:Act)(todo:List Item)(chain:List PanicEntry):(fat b a todo).raise chain={ fat b a todo with mode:=.panicking chain }:=rfl
section
variable {P:Program} {b:Frame} {a:Act} {k:List Item} {cs:List Frame} {w:World}
theorem fstep_skip:Go.step P (lone (fat b a (.code .skip::k)) cs w) = .next (lone (fat b a k) cs w):=cV (by simp[stepG,stepG.exec,fat])
theorem fstep_label{l:Nat}:Go.step P (lone (fat b a (.code (.label l)::k)) cs w) = .next (lone (fat b a k) cs w):=cV (by simp[stepG,stepG.exec,fat])
theorem uX{id:Nat}:Go.step P (lone (fat b a (.inBlock id::k)) cs w) = .next (lone (fat b a k) cs w):=cV (by simp[stepG,stepG.exec,fat])
theorem pL{c:Code}:Go.step P (lone (fat b a (.inScope c::k)) cs w) = .next (lone (fat b a k) cs w):=cV (by simp[stepG,stepG.exec,fat])
theorem fstep_seq{x y:Code}:Go.step P (lone (fat b a (.code (.seq x y)::k)) cs w) = .next (lone (fat b a (.code x :: .code y::k)) cs w):=cV (by simp[stepG,stepG.exec,fat])
theorem vI{c:Operand}{x y:Code}{t:Bool}(h:a.eval c = .bool t):
  Go.step P (lone (fat b a (.code (.cond c x y)::k)) cs w) = .next (lone (fat b a (.code (if t then x else y)::k)) cs w):=
 cV (by
  have:=congrFun (fat_eval b a (.code (.cond c x y)::k)) c;simp only[fat]at this;simp[stepG,stepG.exec,fat,this,h])
theorem fstep_block{id:Nat}{c:Code}:Go.step P (lone (fat b a (.code (.block id c)::k)) cs w) = .next (lone (fat b a (.code c :: .inBlock id::k)) cs w):=cV (by simp[stepG,stepG.exec,fat])
theorem fstep_loop{c:Code}:Go.step P (lone (fat b a (.code (.loop c)::k)) cs w) = .next (lone (fat b a (.code c :: .inLoop c::k)) cs w):=cV (by simp[stepG,stepG.exec,fat])
theorem xK{c:Code}:Go.step P (lone (fat b a (.inLoop c::k)) cs w) = .next (lone (fat b a (.code c :: .inLoop c::k)) cs w):=cV (by simp[stepG,stepG.exec,fat])
theorem tD{c:Code}:Go.step P (lone (fat b a (.code (.scope c)::k)) cs w) = .next (lone (fat b a (.code c :: .inScope c::k)) cs w):=cV (by simp[stepG,stepG.exec,fat])
theorem vH{id:Nat}{k':List Item}(h:iA id k=some k'):Go.step P (lone (fat b a (.code (tA id)::k)) cs w) = .next (lone (fat b a k') cs w):=by
 unfold iA at h;unfold tA;cases hp:Nat.beq (id % 2) 0<;>rw[hp]at h
 ·simp only[cF]at h ⊢;exact cV (by simp[stepG,stepG.exec,fat,h])
 ·simp only[aS]at h ⊢;exact cV (by simp[stepG,stepG.exec,fat,h])
theorem fstep_ret(hr:b.roundOf=none):Go.step P (lone (fat b a (.code .ret::k)) cs w) = .next (lone { fat b a (.code .ret::k) with mode:=.returning } cs w):=
 cV (by simp[stepG,stepG.exec,fat,hr])
theorem fstep_end(hr:b.roundOf=none):Go.step P (lone (fat b a []) cs w) = .next (lone { fat b a []with mode:=.returning } cs w):=
 cV (by simp[stepG,stepG.exec,fat,hr])
variable {ops:Array Oper}
theorem rG{id:Nat}:Go.step P (lone (fat b a (.code (.region id ops false)::k)) cs w) = .next (lone (fat b a (.inRegion ops (List.range ops.size)::k)) cs w):=
 cV (by simp[stepG,stepG.exec,fat])
theorem xJ{id:Nat}:Go.step P (lone (fat b a (.code (.region id ops true)::k)) cs w) =
   .next (lone (fat b a (.inRegion ops (Region.schedule (P.follows .mixedOrders) ops (w.tape w.drawn (.order b.fn id)))::k)) cs { w with drawn:=w.drawn+1 }):=
 cV (by simp[stepG,stepG.exec,fat,choose,Sem.run,Question.forced,Question.cut])
theorem kJ:Go.step P (lone (fat b a (.inRegion ops []::k)) cs w) = .next (lone (fat b a k) cs w):=cV (by simp[stepG,stepG.exec,fat])
theorem kR{i:Nat}{rest:List Nat}(h:((ops[i]?).map (Region.wanted · (yielded ops a.tmps))).getD false=false):
  Go.step P (lone (fat b a (.inRegion ops (i::rest)::k)) cs w) = .next (lone (fat b (a.put ((ops[i]?).bind (·.dst)) undef) (.inRegion ops rest::k)) cs w):=by
 rw[←mN];exact cV (by
  have h':=h;simp only[fat]at *;simp[stepG,stepG.exec,h'])
theorem lM{i:Nat}{rest:List Nat}{o:Oper}(ho:ops[i]?=some o)(hw:Region.wanted o (yielded ops a.tmps)=true)(hd:b.roundOf=none∨∀c,o.op≠.defer c):
  stepG P true { frame:=fat b a (.inRegion ops (i::rest)::k),callers:=cs,status:=.running,dying:=none } w =
   stepG.apply P true (fat b a (.inRegion ops (i::rest)::k)) cs none (execOp a.eval o) w:=by
 have he:=fat_eval b a (.inRegion ops (i::rest)::k);simp only[fat]at he;rcases hd with hd|hd
 ·simp only[hd]at he;simp[stepG,stepG.exec,stepG.oper,Frame.oper?,fat,ho,hw,hd];rw[he]
 ·have hm:stepG.oper P true (fat b a (.inRegion ops (i::rest)::k)) cs none w=stepG.apply P true (fat b a (.inRegion ops (i::rest)::k)) cs none (execOp a.eval o) w:=by
   simp only[stepG.oper,Frame.oper?,fat,ho];split
   ·rename_i c hc hop;exact absurd hop (hd _)
   ·rw[he]
  rw[←hm];simp[stepG,stepG.exec,Frame.oper?,fat,ho,hw]
end
inductive Callee (P:Program):Next→Frame→Prop
 | enter (f:FuncId) (args:Array Value):Callee P (.enter f args) (Frame.enter P f args .normal)
 | round (l:Nat) (f:FuncId) (tmps:Array Value) (az bd:Code):Callee P (.round l f tmps az bd) (Frame.round l f tmps az bd .normal)
def Item.own:List Item→Bool
 | .call .. :: _=>false
 | .extern .. :: _=>false
 | _=>true
section
variable {P:Program} {fr:Frame} {cs:List Frame} {w w':World} {s:Sem Next}
theorem xW{n:Next}{fr0:Frame}(hr:s.run P w = .ok n w')(hn:Callee P n fr0)(ht:Item.own fr.todo=true):
  (stepG.apply P true fr cs none s w).bare = .go { frame:=fr0,callers:=fr::cs,status:=.running,dying:=none } w':=by
 obtain⟨fn,tmps,todo,defers,mode,kind,ro⟩:=fr;cases hn with
 | enter f args=>
  cases todo with
  | nil=>simp[stepG.apply,hr]
  | cons x r=>cases x<;>first|(simp[stepG.apply,hr];done)|cases ht
 | round l f tmps az bd=>simp[stepG.apply,hr]
theorem oR{v:Value}(hr:s.run P w = .ok (.value v) w'):
  (stepG.apply P true fr cs none s w).bare = .go { frame:=fr.finish v,callers:=cs,status:=.running,dying:=none } w':=by
 simp[stepG.apply,hr]
theorem rO(hr:s.run P w = .ok .skip w'):
  (stepG.apply P true fr cs none s w).bare = .go { frame:=fr.finish undef,callers:=cs,status:=.running,dying:=none } w':=by
 simp[stepG.apply,hr]
theorem apply_defer{d:Deferred}(hr:s.run P w = .ok (.defer d) w'):
  (stepG.apply P true fr cs none s w).bare = .go { frame:={ fr with defers:=d::fr.defers }.finish undef,callers:=cs,status:=.running,dying:=none } w':=by
 simp[stepG.apply,hr]
theorem apply_panic{v:Value}(hr:s.run P w = .halt (.panic v) w'):
  (stepG.apply P true fr cs none s w).bare = .go { frame:=fr.raise [{ v,recovered:=false }],callers:=cs,status:=.running,dying:=none } w':=by
 simp[stepG.apply,hr]
theorem apply_recover(hr:s.run P w = .ok .recover w')(hro:fr.roundOf=none):
  (stepG.apply P true fr cs none s w).bare=match tryRecover fr cs with
   | some (v,callers)=>.go { frame:=fr.finish v,callers,status:=.running,dying:=none } w'
   | none=>.go { frame:=fr.finish .nilIface,callers:=cs,status:=.running,dying:=none } w':=by
 simp only[stepG.apply,Sem.runT_eq,hr,GStep.bare_after,hro,if_true];cases tryRecover fr cs with
 | none=>rfl
 | some p=>rfl
end
def pY(P:Program)(m:Machine)(c0:Frame)(cs:List Frame)(R:Ending→World→Prop):Prop:=
 ∃e w',R e w'∧match e with
  | .returned v=>Steps P m (lone (c0.finish v) cs w')
  | .panicked ch=>Steps P m (lone (c0.raise ch) cs w')
  | .outgrown=>False
theorem pY.of_calls{P:Program}{f:FuncId}{args:Array Value}{w:World}{R:Ending→World→Prop}(h:Calls P f args w R)(hno:∀w',¬R .outgrown w')(c0:Frame)(cs:List Frame):
  pY P (lone (Frame.enter P f args .normal) (c0::cs) w) c0 cs R:=by
 obtain⟨e,w',fr,hR,hc,_,hl⟩:=h (c0::cs);refine⟨e,w',hR,?_⟩;cases e with
 | returned v=>exact fB hc (.one (step_leave_returned hl))
 | panicked ch=>exact fB hc (.one (step_leave_panicked hl))
 | outgrown=>exact hno _ hR
def nX(P:Program)(s:Sem Next)(w:World)(R:Ending→World→Prop):Prop:=
 ∃n w1 fr0,s.run P w = .ok n w1∧Callee P n fr0∧∀c0 cs,pY P (lone fr0 (c0::cs) w1) c0 cs R
inductive Ou where
 | normal
 | exit (id:Nat)
 | ret
 | pan (chain:List PanicEntry)
def Ends(P:Program)(m:Machine)(b:Frame)(k:List Item)(cs:List Frame):Ou→Act→World→Prop
 | .normal,a,w=>Steps P m (lone (fat b a k) cs w)
 | .exit id,a,w=>∃todo,iA id todo=iA id k∧Steps P m (lone (fat b a (.code (tA id)::todo)) cs w)
 | .ret,a,w=>∃todo,Steps P m (lone (fat b a (.code .ret::todo)) cs w)
 | .pan ch,a,w=>∃todo,Item.own todo=true∧Steps P m (lone { fat b a todo with mode:=.panicking ch } cs w)
theorem Ends.of_steps{P:Program}{m m1:Machine}{b:Frame}{k:List Item}{cs:List Frame}{o:Ou}{a:Act}{w:World}(h:Steps P m m1)(h':Ends P m1 b k cs o a w):Ends P m b k cs o a w:=by
 cases o with
 | normal=>exact h.trans h'
 | exit id=>obtain⟨t,h1,h2⟩:=h';exact⟨t,h1,h.trans h2⟩
 | ret=>obtain⟨t,h2⟩:=h';exact⟨t,h.trans h2⟩
 | pan ch=>obtain⟨t,h1,h2⟩:=h';exact⟨t,h1,h.trans h2⟩
theorem Ends.pass{P:Program}{m:Machine}{b:Frame}{k:List Item}{x:Item}{cs:List Frame}{o:Ou}{a:Act}{w:World}(hx:∀id,iA id (x::k)=iA id k)(ho:o≠.normal)
  (h:Ends P m b (x::k) cs o a w):Ends P m b k cs o a w:=by
 cases o with
 | normal=>exact absurd rfl ho
 | exit id=>obtain⟨t,h1,h2⟩:=h;exact⟨t,h1.trans (hx id),h2⟩
 | ret=>exact h
 | pan ch=>exact h
end Zv
