/- Joins of labels; what holds of the labels of sites behind a look. Conditions: none. -/
import Derived.Test.YtnpoohbeicakkaaGreatDoorZAV
set_option linter.unusedVariables false
set_option linter.unusedSimpArgs false
set_option maxRecDepth 100000
namespace Zv
open Go
noncomputable section
def Le(us:List Nat)(a b:Nat):Prop:=(uM us a).testBit b=true
section
variable {ss:List (List UInt8)} {us:List Nat} {d e:D} (h:Lt ss us d e)
include h
theorem ord_lt:∀a,a<us.length→kJ us.length (uM us) a=true:=by
 obtain⟨h1,_,h3⟩:=CHK_ord h.c;rw[h1];exact h3
theorem jm{a b:Nat}(ha:a<us.length)(hb:b<us.length):uM us (J us a b)=uM us a&&&uM us b:=by
 have hj:=(h.j ha hb).1;unfold jE at hj;rcases eO (kH (uM us) a b) (-1) us.length 0 with⟨_,h2⟩|⟨m,r,_,_,h3,_,h4⟩
 ·rw[h2]at hj;omega
 ·rw[h4]at hj;unfold kH at h3;cases hb:Nat.beq (uM us m) (uM us a&&&uM us b) with
  | false=>rw[hb]at h3;cases h3
  | true=>
   rw[hb]at h3;have:(m:Int)=r:=Option.some.inj h3;rw[←aQ hb,show m=J us a b by omega]
theorem le_refl{a:Nat}(ha:a<us.length):Le us a a:=(sO (ord_lt h) ha).1
theorem le_trans{a b c:Nat}(ha:a<us.length)(hb:b<us.length)(hc:c<us.length)(h1:Le us a b)(h2:Le us b c):Le us a c:=ord_trans (ord_lt h) ha hb hc h1 h2
theorem u_inj{a b:Nat}(ha:a<us.length)(hb:b<us.length)(e:uM us a=uM us b):a=b:=by
 refine sP (ord_lt h) ha hb ?_ ?_
 ·rw[e];exact le_refl h hb
 ·rw[←e];exact le_refl h ha
theorem le_J{a b:Nat}(ha:a<us.length)(hb:b<us.length):Le us a (J us a b)∧Le us b (J us a b):=by
 have hj:=(h.j ha hb).2;have:=le_refl h hj;unfold Le at this ⊢;rw[jm h ha hb,Nat.testBit_and,bE]at this;exact this
theorem J_le{a b c:Nat}(ha:a<us.length)(hb:b<us.length)(h1:Le us a c)(h2:Le us b c):Le us (J us a b) c:=by
 unfold Le at *;rw[jm h ha hb,Nat.testBit_and,h1,h2];rfl
end
theorem setM_mem2:∀{l:List (Int×Int)} {x:Int} {n:Nat} {q:Nat×Int} {v:Int} {p:Int×Int},nZ l x n=some q→p∈uX l (q.1-n) v→p∈l∨(p=(x,v)∧(x,q.2)∈l)
 | [],_,_,_,_,_,h,_=>by cases h
 | r::l,x,n,q,v,p,h,hp=>by
  unfold nZ at h;split at h
  ·rename_i e;cases h;rw[Nat.sub_self]at hp;rcases bJ.1 hp with rfl|hp
   ·exact .inr ⟨by rw[e],by rw[e];exact bG ..⟩
   ·exact .inl (bD _ hp)
  ·have hle:∀{l:List (Int×Int)} {x:Int} {n:Nat} {q:Nat×Int},nZ l x n=some q→n≤q.1:=fun {l}=>by
    induction l with
    | nil=>intro x n q h;cases h
    | cons a l ih=>
     intro x n q h;unfold nZ at h;split at h
     ·cases h;exact aJ _
     ·have:=ih h;omega
   have:=hle h;rw[show q.1-n=(q.1-(n+1))+1 by omega]at hp
   rcases bJ.1 hp with rfl|hp
   ·exact .inl (bG ..)
   ·rcases setM_mem2 h hp with h1|⟨h1,h2⟩
    ·exact .inl (bD _ h1)
    ·exact .inr ⟨h1,bD _ h2⟩
theorem mkL_mem{us:List Nat}{lm:List (Int×Int)}{x:Int}{now:Nat}{p:Int×Int}(hp:p∈mkL us lm x now):p∈lm∨p=(x,(now:Int))∨∃o,(x,o)∈lm∧p=(x,((J us now o.toNat:Nat):Int)):=by
 unfold mkL at hp;cases hq:nZ lm x 0 with
 | none=>
  rw[hq]at hp;rcases List.mem_append.1 hp with hp|hp
  ·exact .inl hp
  ·exact .inr (.inl (dR.1 hp))
 | some q=>
  rw[hq]at hp;rcases setM_mem2 hq hp with h1|⟨h1,h2⟩
  ·exact .inl h1
  ·exact .inr (.inr ⟨_,h2,h1⟩)
def EqG(us:List Nat)(a b:Tl):Prop:=a=b∧TG us a
theorem eqG_all{us:List Nat}:∀{l m:List Tl},oJ (EqG us) l m→l=m∧∀t∈l,TG us t
 | _,_,.nil=>⟨rfl,nofun⟩
 | a::_,_,.cons h h'=>by
  obtain⟨rfl,h1⟩:=h;obtain⟨rfl,h2⟩:=eqG_all h';exact⟨rfl,fun t ht=>(bJ.1 ht).elim (fun e=>e▸h1) (h2 t)⟩
theorem prim_ok{E:LEn}{ss:List (List UInt8)}{d e:D}(h:EOk E ss d e){x:Nd}{ts:List Tl}{s:Lk}{p:Tl×Lk}(hl:ts.length=1∨ts.length=2)(hg:∀t∈ts,TG E.us t)(hp:nC E x ts s = .ok p):
  TG E.us p.1∧∃w c:Nat,w<E.us.length∧c<E.us.length∧(∀s',nC E x ts s' = .ok (p.1,⟨afN E.us s'.ec w c,s'.lk,s'.lm⟩)):=by
 unfold nC at hp;split at hp
 ·cases hp
 split at hp
 ·cases hp
 rename_i h0 hE;obtain⟨⟨w,hw,hw2⟩,⟨c,hc,hc2⟩⟩:=h.R x.prim ts hl hg (Decidable.not_not.1 h0);cases hp;refine⟨(tl_toT (Decidable.not_not.1 hE)).2,w,c,hw2,hc2,fun s'=>?_⟩
 unfold nC;rw[aD h0,aD hE,hw,hc,cQ,cQ]
def Bd{α:Type}(r:Lo α):Prop:=∀a e,r = .bad a e→e≠0
theorem node_bad{E:LEn}{cal:Nat→List Vr→Lk→Lo (Tl×Lk)}{fs:List Fd}(hc:∀i vs s,i<fs.length→(∀v∈vs,tyE E.us (jK E.us) v.ty=0)→SG E.us s→Bd (cal i vs s)){ss:List (List UInt8)}{d e:D}(h:EOk E ss d e){vs:List Vr}{x:Nd}{st:List Tl}{s:Lk}(hg:∀t∈st,TG E.us t)(hs:SG E.us s):Bd (mS E cal fs vs x st s):=by
 intro a b hp;unfold mS at hp;split at hp
 ·cases hp;decide
 rename_i hb;split at hp
 ·cases hp
 rename_i a' b' hq;cases hp;unfold rQ at hq;split at hq
 ·cases hq
 split at hq
 ·cases hq
 split at hq
 ·cases hq
 split at hq
 ·unfold nameM at hq;split at hq
  ·cases hq;decide
  ·cases hq
 split at hq
 ·unfold nC at hq;split at hq
  ·cases hq;assumption
  split at hq
  ·cases hq;assumption
  ·cases hq
 ·unfold calM at hq;split at hq
  ·cases hq;decide
  rename_i i hi;obtain⟨hil,_⟩:=List.findIdx?_eq_some_iff_getElem.1 hi;rw[aI hil]at hq;simp only at hq;split at hq
  ·cases hq;decide
  rename_i hps;refine hc _ _ _ hil (fun v hv=>?_) ((show SG E.us s.tick from⟨hs.ec,hs.lb,by show s.lk+1≤2000;omega⟩).mark h _) _ _ hq
  obtain⟨k,hk,rfl⟩:=fA hv;have hgl:=Decidable.not_not.1 hps;have hk':k<(st.take (opN x)).length:=by rw[pL hgl]at hk;exact hk
  have e:(oT fs[i].ps (st.take (opN x)))[k]=⟨fs[i].ps[k],tl (st.take (opN x))[k]⟩:=List.getElem_zipWith;rw[e];exact(hg _ (eP (cG hk'))).2.2
theorem run_bad{E:LEn}{cal:Nat→List Vr→Lk→Lo (Tl×Lk)}{fs:List Fd}(hc:∀i vs s,i<fs.length→(∀v∈vs,tyE E.us (jK E.us) v.ty=0)→SG E.us s→Bd (cal i vs s)){ss:List (List UInt8)}{d e:D}(h:EOk E ss d e)(hco:CalOk E cal){vs:List Vr}(hv:∀v∈vs,tyE E.us (jK E.us) v.ty=0):∀(l:List Nd) (st:List Tl) (s:Lk) (b:Nat),(∀x∈l,oR x∧1≤x.kind∧x.kind≤6)→pV l st.length b→(∀t∈st,TG E.us t)→SG E.us s→Bd (kT E cal fs vs l st s)
 | [],_,_,_,_,_,_,_=>fun _ _ hp=>by cases hp
 | x::r,st,s,b,hx,hS,hg,hs=>fun a e' hp=>by
  rw[kT]at hp;cases hq:mS E cal fs vs x st s with
  | bad a' e2=>rw[hq]at hp;cases hp;exact node_bad hc h hg hs _ _ hq
  | ok q=>
   rw[hq]at hp;obtain⟨h1,h2⟩:=hx x (bG ..);obtain⟨g1,g2,g3⟩:=node_inv h hco hv h1 hS.1 h2 hg hs hq;exact run_bad hc h hco hv r q.1 q.2 b (fun y hy=>hx y (bD _ hy)) (by rw[g3];exact hS.2) g1 g2 a e' hp
theorem lok_bad{E:LEn}{ss:List (List UInt8)}{d e:D}(h:EOk E ss d e):∀(f:Nat) (fs:List Fd),fs.length<f→(∀g∈fs,rM g.body)→∀(vs:List Vr) (x:List Nd) (s:Lk),rM x→(∀v∈vs,tyE E.us (jK E.us) v.ty=0)→SG E.us s→Bd (uF E f fs vs x s)
 | 0,fs,hl,_,_,_,_,_,_,_=>by omega
 | f+1,fs,hl,hf,vs,x,s,hx,hv,hs=>fun a b hp=>by
  rw[wX]at hp;have hco:=(wW h f fs hf).1;have hc:∀i vs s,i<fs.length→(∀v∈vs,tyE E.us (jK E.us) v.ty=0)→SG E.us s→Bd (pO E f fs i vs s):=fun i vs s hi hv hs=>by
   unfold pO;rw[aI hi];exact lok_bad h f (fs.take i) (by rw[dI];omega) (fun g hg=>hf g (eP hg)) vs _ s (hf _ (cG hi)) hv hs
  cases hr:kT E (pO E f fs) fs vs (gJ x) [] s with
  | bad a' e'=>rw[hr]at hp;cases hp;exact run_bad hc h hco hv (gJ x) [] s 1 (pS hx) (mG hx) nofun hs _ _ hr
  | ok q=>
   obtain⟨_,_,g3⟩:=run_inv h hco hv (gJ x) [] s q 1 (pS hx) (mG hx) nofun hs hr;rw[hr]at hp;obtain⟨st,sm⟩:=q
   match st,g3 with
   | [t],_=>cases hp
theorem latD_cases(n:Nat)(u:Nat→Nat):rU n u=e2 0 0∨∃a:Int,rU n u=e2 a 4:=by
 unfold rU;rcases eO (wY n u) (e2 0 0) n 0 with⟨_,h⟩|⟨m,r,_,h2,h3,_,h5⟩
 ·exact .inl h
 ·rw[h5];unfold wY at h3;cases hb:latB n u m<;>rw[hb]at h3
  ·cases h3;exact .inr ⟨m,rfl⟩
  ·cases h3
theorem CHK_cases(ss:List (List UInt8))(us:List Nat):(CHK ss us=e2 0 0∧us.length=ss.length∧1≤ss.length∧ss.length≤8∧(∀a,a<ss.length→kJ ss.length (uM us) a=true))∨∃a er:Int,CHK ss us=e2 a er∧er≠0:=by
 unfold CHK;rcases lR ss with⟨h1,h2⟩|⟨h1,a,er,h2,h3⟩
 ·rw[aH h1];have hn:=kU.1 h1;by_cases hl:us.length=ss.length
  ·rw[aH hl];unfold ordD;rcases eO (pE ss.length (uM us)) (rU ss.length (uM us)) ss.length 0 with⟨hb,h⟩|⟨m,r,_,h2,h3,_,h5⟩
   ·rw[h];rcases latD_cases ss.length (uM us) with h'|⟨a,h'⟩
    ·refine .inl ⟨h',hl,hn.1.1,hn.1.2,fun a ha=>?_⟩
     have:=hb a (by omega) (by omega)
     unfold pE at this;cases ho:kJ ss.length (uM us) a
     ·rw[ho]at this;cases this
     ·rfl
    ·exact .inr ⟨a,4,h',by decide⟩
   ·rw[h5];unfold pE at h3;cases hb:kJ ss.length (uM us) m<;>rw[hb]at h3
    ·cases h3;exact .inr ⟨_,_,rfl,by decide⟩
    ·cases h3
  ·rw[aD hl];exact .inr ⟨_,_,rfl,by decide⟩
 ·rw[aD (by rw[h1];decide)];exact .inr ⟨a,er,h2,h3⟩
structure FdIn (f:Fd):Prop where
 p:Sl 1 iA f.ps f.pd
 b:Sl 7 bU f.body f.bd
structure FdSm (f:Fd):Prop where
 nm:f.name.length≤100
 pl:f.ps.length≤4
 b:NotLong f.body
 pn:∀s∈f.ps,s.length≤100
def NotLarge(ss:List (List UInt8))(us:List Nat)(vs:List Vr)(fs:List Fd):Prop:=vM ss us=false∧vs.length≤40∧fs.length≤20∧(∀x∈vs,x.name.length≤100)∧∀x∈fs,FdSm x
def Out10(n:Nat)(ss:List (List UInt8))(us:List Nat)(vs:List Vr)(fs:List Fd)(r:R):Prop:=∃b,pout (zbody (dfn n MM) A10 r)=some (.bool b,true)∧(b=false→NotLarge ss us vs fs)
theorem B10_eq:B10=(.seq (.reg none [⟨(some 1),(.new 30 (.t 0)),none⟩,⟨(some 2),(.mv (.c (.bool false))),none⟩]) (.seq (.seq (.reg none [⟨(some 3),(.mv (.c (.int .i64 0))),none⟩]) (.block 0 (.loop (.seq (.seq (.reg none [⟨(some 7),(.mv (.t 3)),none⟩,⟨(some 8),(.fa 2 (.t 1)),none⟩,⟨(some 9),(.ld none (.t 8)),none⟩,⟨(some 10),(.len false (.t 9)),none⟩,⟨(some 11),(.bin .lss (.t 7) (.t 10)),none⟩,⟨(some 12),(.mv (.t 11)),none⟩,⟨(some 13),(.mv (.t 3)),(some (12,true))⟩,⟨(some 14),(.bin .lss (.t 13) (.c (.int .i64 50))),(some (12,true))⟩,⟨(some 15),(.pick (.t 12) (.t 14) (.c (.bool false))),none⟩]) (.cond (.t 15) .skip (.exit 0))) (.seq (.block 2 (.seq (.reg none [⟨(some 18),(.fa 2 (.t 1)),none⟩,⟨(some 19),(.ld none (.t 18)),none⟩,⟨(some 20),(.mv (.t 3)),none⟩,⟨(some 21),(.iaS 6 (.t 19) (.t 20)),none⟩,⟨(some 22),(.fa 0 (.t 21)),none⟩,⟨(some 23),(.ld none (.t 22)),none⟩,⟨(some 24),(.len true (.t 23)),none⟩,⟨(some 25),(.bin .gtr (.t 24) (.c (.int .i64 100))),none⟩]) (.cond (.t 25) (.seq (.reg none [⟨(some 2),(.mv (.c (.bool true))),none⟩]) .ret) .skip))) (.reg none [⟨(some 16),(.mv (.t 3)),none⟩,⟨(some 17),(.bin .add (.t 16) (.c (.int .i64 1))),none⟩,⟨(some 3),(.mv (.t 17)),none⟩])))))) W10)):=rfl
theorem out10{n:Nat}{ss:List (List UInt8)}{us:List Nat}{vs:List Vr}{fs:List Fd}{t:Tm}{s:St}{c:Nat}(h:tget t 2 = .bool true):Out10 n ss us vs fs (.ok .ret ⟨t,s,c,[],none⟩):=
 ⟨true,by simp only[z2,seval,A10,h];rfl,nofun⟩
theorem Z10_ok(n:Nat){ss:List (List UInt8)}{us:List Nat}{d e v f:D}{vs:List Vr}{fs:List Fd}(hd:Sl 1 iA ss d)(he:Sl 1 u8C us e)(hv:Sl 6 vrC vs v)(hf:Sl 3 fdC fs f){t:Tm}{s:St}{c:Nat}(s0:sget s 0=some (.fix 30 [d,e,v,f]))(q1:tget t 1 = .ptr 0 0)
  (hvn:vs.length≤50→∀x∈vs,x.name.length≤100) (hfn:fs.length≤30→∀x∈fs,FdSm x):Out10 (n+1) ss us vs fs (zC Z10 (cxn (n+1)) (fn (n+1) 4096) KK ⟨t,s,c,[],none⟩):=by
 simp only[Z10,Ab.abq];have h28:=c28 n hd he;have htk:dH [d,e,v,f] 0 (some 2)=some (.agg [d,e]):=rfl;cases hL:vM ss us
 ·rw[hL]at h28;by_cases h40:40<vs.length
  ·have k1:decide ((40:Int)<(vs.length:Nat))=true:=dT (by omega)
   simp only[z2,seval,s0,q1,htk,aF (f:=28) rfl,aR,hd.fz,he.fz,h28,hv.len,k1,nb];exact out10 (by simp[aE])
  ·have k1:decide ((40:Int)<(vs.length:Nat))=false:=dF (by omega)
   by_cases h20:20<fs.length
   ·have k2:decide ((20:Int)<(fs.length:Nat))=true:=dT (by omega)
    simp only[z2,seval,s0,q1,htk,aF (f:=28) rfl,aR,hd.fz,he.fz,h28,hv.len,hf.len,k1,k2,nb];exact out10 (by simp[aE])
   ·have k2:decide ((20:Int)<(fs.length:Nat))=false:=dF (by omega)
    simp only[z2,seval,s0,q1,htk,aF (f:=28) rfl,aR,hd.fz,he.fz,h28,hv.len,hf.len,k1,k2,nb];exact⟨false,by simp only[z2,seval,A10];rfl,fun _=>⟨hL,by omega,by omega,hvn (by omega),hfn (by omega)⟩⟩
 ·rw[hL]at h28;simp only[z2,seval,s0,q1,htk,aF (f:=28) rfl,aR,hd.fz,he.fz,h28,nb];exact out10 (by simp[aE])
theorem W10_ok(n:Nat){ss:List (List UInt8)}{us:List Nat}{d e v f:D}{vs:List Vr}{fs:List Fd}(hd:Sl 1 iA ss d)(he:Sl 1 u8C us e)(hv:Sl 6 vrC vs v)(hf:Sl 3 fdC fs f)(hfs:∀x∈fs,FdIn x){t:Tm}{s:St}{c:Nat}(s0:sget s 0=some (.fix 30 [d,e,v,f]))(hc:1≤c)(q1:tget t 1 = .ptr 0 0)
  (hvn:vs.length≤50→∀x∈vs,x.name.length≤100):Out10 (n+1) ss us vs fs (zC W10 (cxn (n+1)) (fn (n+1) 4096) KK ⟨t,s,c,[],none⟩):=by
 simp only[W10,Ab.abq];simp only[z2,seval];generalize hz:zloop KK _ _=rl;have hN:min fs.length 30≤30:=Nat.min_le_right _ _;refine zfor rl hz (min fs.length 30) (fM (by omega)) (by omega) (fun i t s c=>sget s 0=some (.fix 30 [d,e,v,f])∧1≤c∧tget t 1 = .ptr 0 0∧∀j,j<i→∀h:j<fs.length,FdSm fs[j]) (by simp[aE]) ⟨s0,hc,by simp[aE,q1],nofun⟩ ?_
 clear hz s0 hc q1;rintro i t s c hi ⟨s0,hc,q1,hn⟩ q4;by_cases hlt:i<fs.length
 ·by_cases h30:i<30
  ·have k1:decide ((i:Int)<30)=true:=dT (by omega)
   have hrow:=hf.row hlt;have hx:=hfs _ (cG hlt);have hpn:=hx.p.nag;have hbn:=hx.b.nag;have f0:(0=c)=False:=aM (by omega)
   have htk:∀a b c:D,dH [a,b,c] 0 (some 3)=some (.agg [a,b,c]):=fun _ _ _=>rfl
   obtain⟨b,h11,hb⟩:=c11 n hx.b;by_cases e1:100<fs[i].name.length
   ·have k2:decide ((100:Int)<(fs[i].name.length:Nat))=true:=dT (by omega)
    simp only[z2,seval,s0,f0,q1,q4,hf.len,eD hlt,k1,hf.ia hlt,hrow,fdC,htk,hpn,hbn,k2,nb];exact out10 (by simp[aE])
   ·have k2:decide ((100:Int)<(fs[i].name.length:Nat))=false:=dF (by omega)
    by_cases e2:4<fs[i].ps.length
    ·have k3:decide ((4:Int)<(fs[i].ps.length:Nat))=true:=dT (by omega)
     simp only[z2,seval,s0,f0,q1,q4,hf.len,eD hlt,k1,hf.ia hlt,hrow,fdC,htk,hpn,hbn,k2,hx.p.len,k3,nb];exact out10 (by simp[aE])
    ·have k3:decide ((4:Int)<(fs[i].ps.length:Nat))=false:=dF (by omega)
     cases b
     ·have hB:=hb rfl;have hp:=hx.p;have hlen:=hp.len;simp only[z2,seval,s0,f0,q1,q4,hf.len,eD hlt,k1,hf.ia hlt,hrow,fdC,htk,hpn,hbn,k2,hlen,k3,aF (f:=11) rfl,aR,hx.b.fz,h11,nb];generalize hS:sset (sadd s c _) c _=S;generalize hz:zloop KK _ _=rl2;have sc:sget S c=some (.fix 79 [.str fs[i].name,fs[i].pd,fs[i].bd]):=by rw[←hS];simp[aE]
      have s0':sget S 0=some (.fix 30 [d,e,v,f]):=by rw[←hS];simp only[aE,f0,fW];exact s0
      refine zfor rl2 hz fs[i].ps.length (fM (by omega)) (by omega) (fun k t s' c'=>s'=S∧c'=c+1∧tget t 1 = .ptr 0 0∧tget t 4 = .int .i64 (i:Nat)∧tget t 5 = .ptr c 0∧∀j,j<k→∀h:j<fs[i].ps.length,fs[i].ps[j].length≤100) (by simp[aE]) ⟨rfl,rfl,by simp[aE,q1],by simp[aE,q4],by simp[aE],nofun⟩ ?_
      clear hz q4 hS;rintro k t s' c' hk ⟨rfl,rfl,q1,q4,q5,hn2⟩ q6;by_cases hkl:k<fs[i].ps.length
      ·by_cases e3:100<fs[i].ps[k].length
       ·have k4:decide ((100:Int)<(fs[i].ps[k].length:Nat))=true:=dT (by omega)
        simp only[z2,seval,sc,q1,q4,q5,q6,hlen,eD hkl,hp.ia1 hkl,hp.at1 hkl,iA,k4,nb];exact out10 (by simp[aE])
       ·have k4:decide ((100:Int)<(fs[i].ps[k].length:Nat))=false:=dF (by omega)
        simp only[z2,seval,sc,q1,q4,q5,q6,hlen,eD hkl,hp.ia1 hkl,hp.at1 hkl,iA,k4,nb];refine⟨hkl,trivial,trivial,trivial,trivial,trivial,trivial,trivial,trivial,fun j hj h=>?_⟩
        rcases cU.1 hj with h'|rfl
        ·exact hn2 j h' h
        ·omega
      ·have e1':k=fs[i].ps.length:=by omega
       subst e1';simp only[z2,seval,sc,s0',q1,q4,q5,q6,hlen,kC (aJ fs[i].ps.length),nb];refine⟨by omega,trivial,trivial,trivial,trivial,by first|trivial|omega,trivial,fun j hj h=>?_⟩
       rcases cU.1 hj with h'|rfl
       ·exact hn j h' h
       ·exact⟨by omega,by omega,hB,fun y hy=>by
         obtain⟨m,hm,rfl⟩:=fA hy;exact hn2 m hm hm⟩
     ·simp only[z2,seval,s0,f0,q1,q4,hf.len,eD hlt,k1,hf.ia hlt,hrow,fdC,htk,hpn,hbn,k2,hx.p.len,k3,aF (f:=11) rfl,aR,hx.b.fz,h11,nb];exact out10 (by simp[aE])
  ·have k1:decide ((i:Int)<30)=false:=dF (by omega)
   simp only[z2,seval,s0,q1,q4,hf.len,eD hlt,k1,nb];exact Z10_ok n hd he hv hf s0 (by simp[aE,q1]) hvn fun h=>absurd h (by omega)
 ·have e1:i=fs.length:=by omega
  subst e1;simp only[z2,seval,s0,q1,q4,hf.len,kC (aJ fs.length),nb];exact Z10_ok n hd he hv hf s0 (by simp[aE,q1]) hvn fun h x hx=>by
   obtain⟨j,hj,rfl⟩:=fA hx;exact hn j hj hj
theorem c10(n:Nat){ss:List (List UInt8)}{us:List Nat}{d e v f:D}{vs:List Vr}{fs:List Fd}(hd:Sl 1 iA ss d)(he:Sl 1 u8C us e)(hv:Sl 6 vrC vs v)(hf:Sl 3 fdC fs f)(hfs:∀x∈fs,FdIn x):∃b,cl (n+1) 10 [.agg [d,e,v,f]]=some (.bool b,true)∧(b=false→NotLarge ss us vs fs):=by
 rw[cN (A:=A10) rfl (n+1) _ rfl,show A10.body=B10 from rfl]
 show Out10 (n+1) ss us vs fs _;rw[B10_eq];simp only[z2,seval,hd.nag,he.nag,hv.nag,hf.nag];generalize hz:zloop KK _ _=rl;have hN:min vs.length 50≤50:=Nat.min_le_right _ _
 refine zfor rl hz (min vs.length 50) (fM (by omega)) (by omega) (fun i t s c=>sget s 0=some (.fix 30 [d,e,v,f])∧1≤c∧tget t 1 = .ptr 0 0∧∀j,j<i→∀h:j<vs.length,vs[j].name.length≤100) (by simp[aE]) ⟨by simp[aE],by decide,by simp[aE],nofun⟩ ?_
 clear hz;rintro i t s c hi ⟨s0,hc,q1,hn⟩ q3;by_cases hgo:i<vs.length∧i<50
 ·obtain⟨hlt,h50⟩:=hgo;have k1:decide ((i:Int)<50)=true:=dT (by omega)
  have g0:=hv.cell hlt (show 0<6 by omega)
  by_cases e1:100<vs[i].name.length
  ·have k2:decide ((100:Int)<(vs[i].name.length:Nat))=true:=dT (by omega)
   simp only[z2,seval,s0,q1,q3,hv.len,eD hlt,k1,hv.ia hlt,g0,vrC,k2,nb];exact out10 (by simp[aE])
  ·have k2:decide ((100:Int)<(vs[i].name.length:Nat))=false:=dF (by omega)
   simp only[z2,seval,s0,q1,q3,hv.len,eD hlt,k1,hv.ia hlt,g0,vrC,k2,nb];refine⟨by omega,trivial,trivial,trivial,trivial,hc,trivial,fun j hj h=>?_⟩
   rcases cU.1 hj with h'|rfl
   ·exact hn j h' h
   ·omega
 ·have hvn:vs.length≤50→∀x∈vs,x.name.length≤100:=fun h x hx=>by
   obtain⟨j,hj,rfl⟩:=fA hx;exact hn j (by omega) hj
  by_cases hlt:i<vs.length
  ·have k1:decide ((i:Int)<50)=false:=dF (by omega)
   simp only[z2,seval,s0,q1,q3,hv.len,eD hlt,k1,nb];exact W10_ok n hd he hv hf hfs s0 hc (by simp[aE,q1]) hvn
  ·simp only[z2,seval,s0,q1,q3,hv.len,kC (Nat.le_of_not_lt hlt),nb];exact W10_ok n hd he hv hf hfs s0 hc (by simp[aE,q1]) hvn
end
end Zv
namespace Zv
open Go Ab
noncomputable section
theorem k12(n j:Nat)(s:St)(c:Nat):fn n (j+1) (.fn 12) [] s c = .ok (.ret (.bool true)) s c:=fn_known (f:=12) rfl rfl rfl rfl rfl n j c
theorem sites_sl(lm:List (Int×Int)):Sl 2 uO (eG lm) (.sl false lm.length (en2 (eG lm))):=by
 refine⟨fun r hr=>by obtain⟨k,_,rfl⟩:=cP.1 hr;rfl,.inr ⟨false,?_⟩⟩
 rw[eY,(iV lm).length_eq,←vG];rfl
structure In22 (ss:List (List UInt8)) (us:List Nat) (d e v f dx:D) (vs:List Vr) (fs:List Fd) (x:List Nd):Prop where
 hd:Sl 1 iA ss d
 he:Sl 1 u8C us e
 hu:iS us
 hs:pW ss
 hE:uU vs fs v f
 hx:Sl 7 bU x dx
 hxl:x.length<4294967296
 hxn:x.length≤400→NdOk x
theorem in22{ss:List (List UInt8)}{us:List Nat}{d e v f dx:D}{vs:List Vr}{fs:List Fd}{x:List Nd}(hd:Sl 1 iA ss d)(he:Sl 1 u8C us e)(hu:iS us)(hv:Sl 6 vrC vs v)(hf:Sl 3 fdC fs f)(hfs:∀x∈fs,FdIn x)(hx:Sl 7 bU x dx)(h:NotLarge ss us vs fs)(hl:NotLong x):In22 ss us d e v f dx vs fs x:=by
 obtain⟨hL,h40,h20,hvn,hfn⟩:=h;refine⟨hd,he,hu,?_,⟨hv,hf,by omega,by omega,fun x hx=>by have:=hvn x hx;omega,fun x hx=>?_⟩,hx,by have:=hl.1;omega,fun h y hy=>by have:=hl.2 h y hy;omega⟩
 ·unfold vM at hL;simp only[Bool.or_eq_false_iff,cB,List.any_eq_false,List.mem_range]at hL;obtain⟨h1,h2,_⟩:=hL;intro s hs;obtain⟨i,hi,rfl⟩:=List.mem_iff_getElem.1 hs;have:=h1 i (by omega)
  rw[kB hi,cH]at this;omega
 ·have h:=hfn x hx;have hi:=hfs x hx;have hb:=h.b;exact⟨by have:=h.nm;omega,hi.p,hi.b,fun s hs=>by have:=h.pn s hs;omega,by have:=h.pl;omega,by have:=hb.1;omega,fun hl y hy=>by have:=hb.2 hl y hy;omega⟩
theorem look_cases(n:Nat){ss:List (List UInt8)}{us:List Nat}{d e v f dx:D}{vs:List Vr}{fs:List Fd}{x:List Nd}(h:In22 ss us d e v f dx vs fs x)(pc ec:Int):
  (∃a er:Int,er≠0∧cl (n+13) 13 [.agg [d,e,v,f],.int .i64 pc,.int .i64 ec,dx]=some (.tup [.agg zl0,.int .i64 a,.int .i64 er],true)) ∨
  ∃(low p q:Nat) (r:Tl×Lk),pc=p∧ec=q∧EOk ⟨us,low,p,RDl n d e⟩ ss d e∧q<us.length∧EnvG us vs fs∧envE us vs fs=0∧XOk x∧uF ⟨us,low,p,RDl n d e⟩ (fs.length+1) fs vs x ⟨q,0,[]⟩ = .ok r∧cl (n+13) 13 [.agg [d,e,v,f],.int .i64 pc,.int .i64 ec,dx]=some (lookR r,true):=by
 rcases CHK_cases ss us with⟨hC,hul,h1,h8,_⟩|⟨x',er,hC,hne⟩
 case inr=>exact .inl ⟨0,er,hne,c13e (n+12) pc ec h.hd h.he h.hE (c22e n h.hd h.he h.hu h.hs hC hne h.hE) hne⟩
 have hL:Lt ss us d e:=⟨h.hd,h.he,h.hu,h.hs,hC,hul,h1,h8⟩;have h22:=c22 n h.hd h.he h.hu h.hs hC h.hE;by_cases h0:envE us vs fs=0
 case neg=>exact .inl ⟨0,_,h0,c13e (n+12) pc ec h.hd h.he h.hE h22 h0⟩
 obtain⟨low,hl1,hl2,_,hl4⟩:=wU hC;rw[←hul]at hl1 hl4;have hc:=c13 n pc ec hL h.hE h0 hl2 hl1 hl4 h.hx h.hxl h.hxn;have hG:=env_ok h0;unfold lookD at hc;by_cases hr:¬((0≤pc∧pc<us.length)∧0≤ec∧ec<us.length)
 ·rw[aH hr]at hc;exact .inl ⟨0,7,by decide,hc⟩
 rw[aD hr]at hc;by_cases hx0:exE x≠0
 ·rw[aH hx0]at hc;exact .inl ⟨0,_,hx0,hc⟩
 rw[aD hx0]at hc;obtain⟨⟨p1,p2⟩,p3,p4⟩:=Decidable.not_not.1 hr;have hXO:=exE_ok (Decidable.not_not.1 hx0);have hE:EOk ⟨us,low,pc.toNat,RDl n d e⟩ ss d e:=⟨hL,hl2,hl1,hl4,by show pc.toNat<us.length;omega,fun p ts hl hg h0=>by
  obtain⟨t,w,c,er,e1,e2,e3⟩:=rd_ok n hL p hl hg;have e1':(⟨us,low,pc.toNat,RDl n d e⟩:LEn).R p ts=(t,w,c,er):=e1;rw[e1']at h0 ⊢;exact e3 h0⟩
 cases hr2:uF ⟨us,low,pc.toNat,RDl n d e⟩ (fs.length+1) fs vs x ⟨ec.toNat,0,[]⟩ with
 | bad a b=>
  rw[hr2]at hc;exact .inl ⟨a,b,lok_bad hE (fs.length+1) fs (Nat.lt_succ_self _) (fun g hg=>(hG.fb g hg).ex) vs x ⟨ec.toNat,0,[]⟩ hXO.ex hG.vt ⟨by show ec.toNat<us.length;omega,nofun,dB _⟩ a b hr2,hc⟩
 | ok r=>
  rw[hr2]at hc;exact .inr ⟨low,pc.toNat,ec.toNat,r,by omega,by omega,hE,by omega,hG,h0,hXO,hr2,hc⟩
theorem eqTs_c{off:Nat}{sz:Option Nat}{t:ET}{r:List (Nat×Option Nat×ET)}{xs:List D}{a:D}(h1:dH xs off sz=some a)(h3:eqT t a a=some true):uG ((off,sz,t)::r) xs xs=uG r xs xs:=by
 rw[uG,h1];simp only[h3];rfl
theorem eqT_i(a:Int):eqT .int (.int .i64 a) (.int .i64 a)=some true:=by
 rw[eqT,aH rfl,show(a==a)=true by simp]
theorem cmp5(a b c d e:Int):pI (.ty (.parts [(0,none,.int),(1,none,.int),(2,some 2,.parts [(0,none,.int),(1,none,.int)]),(4,none,.int)])) (.agg [.int .i64 a,.int .i64 b,.int .i64 c,.int .i64 d,.int .i64 e]) (.agg [.int .i64 a,.int .i64 b,.int .i64 c,.int .i64 d,.int .i64 e])=some true:=by
 rw[pI,eqT];rw[eqTs_c (a:=.int .i64 a) rfl (eqT_i a),eqTs_c (a:=.int .i64 b) rfl (eqT_i b),eqTs_c (a:=.agg [.int .i64 c,.int .i64 d]) rfl,eqTs_c (a:=.int .i64 e) rfl (eqT_i e)]
 ·rw[uG]
 ·rw[eqT,eqTs_c (a:=.int .i64 c) rfl (eqT_i c),eqTs_c (a:=.int .i64 d) rfl (eqT_i d),uG]
structure IB (d e v f dx ds:D) (p q:Nat) (J1 J0:Nat) (k r a b c' ec lk:Int) (t:Tm) (s:St) (c:Nat):Prop where
 s0:sget s 0=some (.fix 30 [d,e,v,f])
 s1:sget s 1=some (.fix 31 [.int .i64 (p:Nat),.int .i64 (q:Nat)])
 s2:sget s 2=some (.fix 40 [.int .i64 k,.int .i64 r,.int .i64 a,.int .i64 b,.int .i64 c',.int .i64 ec,ds,.int .i64 lk])
 fr:mW s c
 hc:3≤c
 t2:tget t 2=dx
 t3:tget t 3 = .ptr 0 0
 t4:tget t 4 = .ptr 1 0
 t7:tget t 7 = .ptr 2 0
 t10:tget t 10 = .int .i64 (J1:Nat)
 t11:tget t 11 = .int .i64 (J0:Nat)
theorem IB.tm{d e v f dx ds:D}{p q:Nat}{J1 J0:Nat}{k r a b c' ec lk:Int}{t t':Tm}{s:St}{c c2:Nat}(h:IB d e v f dx ds p q J1 J0 k r a b c' ec lk t s c)(hc:c≤c2)(ht:∀i,i=2∨i=3∨i=4∨i=7∨i=10∨i=11→tget t' i=tget t i):IB d e v f dx ds p q J1 J0 k r a b c' ec lk t' s c2:=
 ⟨h.s0,h.s1,h.s2,fun m hm=>h.fr m (by omega),by have:=h.hc;omega,by rw[ht 2 (by simp),h.t2],by rw[ht 3 (by simp),h.t3],by rw[ht 4 (by simp),h.t4],by rw[ht 7 (by simp),h.t7],by rw[ht 10 (by simp),h.t10],by rw[ht 11 (by simp),h.t11]⟩
end
end Zv
namespace Zv
open Go
noncomputable section
theorem meet_is{ss:List (List UInt8)}{us:List Nat}{d e:D}(h:Lt ss us d e){a b:Nat}(ha:a<us.length)(hb:b<us.length):
  ∃m:Nat,jE (dnM (uM us) us.length us.length) us.length a b=m∧m<us.length∧Le us m a∧Le us m b:=by
 have h2:=latD_good (CHK_lat h.c) a (h.l▸ha) b (h.l▸hb)
 rw[←h.l]at h2;unfold lat2 at h2;simp only[bE,Bool.not_eq_true',cB]at h2;have h3:=h2.2;unfold jE at h3 ⊢;rcases eO (kH (dnM (uM us) us.length us.length) a b) (-1) us.length 0 with⟨_,h'⟩|⟨m,r,_,hm,h5,_,h6⟩
 ·rw[h']at h3;exact absurd (by decide) h3
 have hm':m<us.length:=by omega
 unfold kH at h5;split at h5
 case isFalse=>cases h5
 case isTrue he=>
  have e:(m:Int)=r:=Option.some.inj h5;have hmm:(dnM (uM us) us.length us.length m).testBit m=true:=by
   have:=le_refl h hm';unfold Le at this;rw[oM];simp[hm',this]
  rw[aQ he,Nat.testBit_and,oM,oM]at hmm;simp only[bE,cH]at hmm;exact⟨m,by rw[h6,e],hm',hmm.1.2.1,hmm.2.2.1⟩
theorem down_near{us:List Nat}{n a b:Nat}(ha:a<n)(hb:b<n):jE (uM (oF n us)) n a b=jE (dnM (uM us) n n) n a b:=by
 unfold jE;refine qW fun c _ hc=>?_
 unfold kH;rw[down_uM n us (by omega),down_uM n us ha,down_uM n us hb]
theorem c16(n:Nat){ss:List (List UInt8)}{us:List Nat}{d e:D}(h:Lt ss us d e){low:Nat}(hl:low<us.length)(hb:∀i,i<us.length→(uM us low).testBit i=true):
  cl (n+5) 16 [.agg [d,e]]=some (e2 (low:Nat) 0,true):=by
 rw[cN (A:=A16) rfl (n+5) _ rfl,show A16.body=B16 from rfl]
 simp only[B16,Ab.abq];have h1:0<us.length:=by omega
 have h50:cl (n+4) 50 [.agg [d,e],.int .i64 0,.int .i64 0]=some (.int .i64 0,true):=c50 n h h1 h1;have h51:=c51 (n+3) h.d h.e h.u h.h8 h.l;rw[←h.l]at h51;have ld:=h.d.len;rw[←h.l]at ld;have hsl:=Sl8 (dnM (uM us) us.length us.length) us.length;rw[show(List.range us.length).map (dnM (uM us) us.length us.length)=oF us.length us from rfl]at hsl
 have dlen:(oF us.length us).length=us.length:=by unfold oF;simp
 have hu8:iS (oF us.length us):=fun u hu=>by
  unfold oF at hu;obtain⟨i,_,rfl⟩:=cP.1 hu;exact dnM_u8 _ (by have:=h.h8;have:=h.l;omega)
 have h52:∀a b,a<us.length→b<us.length→cl (n+4) 52 [.sl true us.length (cells8 (dnM (uM us) us.length us.length) us.length),.int .i64 (a:Nat),.int .i64 (b:Nat)]=some (.int .i64 (jE (dnM (uM us) us.length us.length) us.length a b),true):=fun a b ha hb=>by
  have:=c52 (n+4) hsl hu8 (by rw[dlen];have:=h.h8;have:=h.l;omega) (a:=a) (b:=b) (by rw[dlen];exact ha) (by rw[dlen];exact hb)
  rw[dlen,down_near ha hb]at this;exact this
 generalize D.sl true us.length (cells8 (dnM (uM us) us.length us.length) us.length)=q at *;have hqn:=hsl.nag;simp only[z0,seval,h.d.nag,h.e.nag,h.d.fz,h.e.fz,aF (f:=50) rfl,aF (f:=51) rfl,aR,h50,h51,show decide ((0:Int)≠0)=false from rfl]
 generalize hz:zloop KK _ _=rl;have hul:=h.l;have hu8':=h.h8;refine zfor rl hz us.length (fM (by omega)) (by omega) (fun i t s c=>sget s 0=some (.fix 26 [d,e])∧tget t 1 = .ptr 0 0∧tget t 5=q∧∃b:Nat,tget t 6 = .int .i64 (b:Nat)∧b<us.length∧∀j,j<i→Le us b j) (by simp[aE]) ⟨by simp[aE],by simp[aE],by simp[aE],0,by simp[aE],h1,nofun⟩ ?_
 rintro i t s c hi ⟨s0,t1,t5,b,t6,hbl,hj⟩ t7;by_cases hlt:i<us.length
 ·obtain⟨m,hm1,hm2,hm3,hm4⟩:=meet_is h hlt hbl;have h5:=h52 i b hlt hbl;rw[hm1]at h5;simp only[z0,seval,s0,t1,t5,t6,t7,ld,eD hlt,aF (f:=52) rfl,aR,hsl.fz,h5];exact⟨hlt,trivial,trivial,trivial,trivial,trivial,trivial,m,rfl,hm2,fun j hjj=>by
   rcases cU.1 hjj with h'|rfl
   ·exact le_trans h hm2 hbl (by omega) hm4 (hj j h')
   ·exact hm3⟩
 ·have e1:i=us.length:=by omega
  subst e1;have:b=low:=by
   refine sP (ord_lt h) hbl hl (hj low hl) (hb b hbl)
  subst this;simp only[z0,seval,s0,t1,t5,t6,t7,ld,kC (aJ us.length),A16];rfl
section
variable {ss:List (List UInt8)} {us:List Nat} {d e:D} (h:Lt ss us d e)
include h
theorem J_assoc{a b c:Nat}(ha:a<us.length)(hb:b<us.length)(hc:c<us.length):J us (J us a b) c=J us a (J us b c):=by
 have h1:=(h.j ha hb).2;have h2:=(h.j hb hc).2;refine u_inj h (h.j h1 hc).2 (h.j ha h2).2 ?_;rw[jm h h1 hc,jm h ha hb,jm h ha h2,jm h hb hc,Nat.and_assoc]
theorem J_distr{a b c:Nat}(ha:a<us.length)(hb:b<us.length)(hc:c<us.length):J us (J us a b) (J us a c)=J us a (J us b c):=by
 have h1:=(h.j ha hb).2;have h2:=(h.j hb hc).2;have h3:=(h.j ha hc).2;refine u_inj h (h.j h1 h3).2 (h.j ha h2).2 ?_;rw[jm h h1 h3,jm h ha hb,jm h ha hc,jm h ha h2,jm h hb hc];refine Nat.eq_of_testBit_eq fun i=>?_
 simp only[Nat.testBit_and];cases(uM us a).testBit i<;>cases(uM us b).testBit i<;>cases(uM us c).testBit i<;>rfl
theorem J_low{a low:Nat}(ha:a<us.length)(hl:low<us.length)(hb:∀i,i<us.length→(uM us low).testBit i=true):J us a low=a∧J us low a=a:=by
 have h1:=h.j ha hl;have h2:=h.j hl ha;exact⟨sP (ord_lt h) h1.2 ha (J_le h ha hl (le_refl h ha) (hb a ha)) (le_J h ha hl).1,sP (ord_lt h) h2.2 ha (J_le h hl ha (hb a ha) (le_refl h ha)) (le_J h hl ha).2⟩
end
def upL(us:List Nat)(a:Nat)(p:Int×Int):Int×Int:=(p.1,((J us a p.2.toNat:Nat):Int))
theorem posM_map{us:List Nat}{a:Nat}:∀(l:List (Int×Int)) (x:Int) (n:Nat),nZ (l.map (upL us a)) x n=(nZ l x n).map fun q=>(q.1,((J us a q.2.toNat:Nat):Int))
 | [],_,_=>rfl
 | p::l,x,n=>by
  rw[bO,nZ,nZ];by_cases e:x=p.1
  ·rw[aH (show x=(upL us a p).1 from e),aH e];rfl
  ·rw[aD (show ¬x=(upL us a p).1 from e),aD e];exact posM_map l x (n+1)
theorem setM_map{us:List Nat}{a:Nat}:∀(l:List (Int×Int)) (i:Nat) (k:Nat),uX (l.map (upL us a)) i ((J us a k:Nat):Int)=(uX l i (k:Int)).map (upL us a)
 | [],_,_=>by cases ‹Nat›<;>rfl
 | p::l,0,k=>by simp only[bO,uX];rfl
 | p::l,i+1,k=>by simp only[bO,uX];rw[setM_map l i k]
theorem mkL_map{ss:List (List UInt8)}{us:List Nat}{d e:D}(h:Lt ss us d e){a now:Nat}(ha:a<us.length)(hn:now<us.length){lm:List (Int×Int)}(hl:LabN us lm)(x:Int):
  mkL us (lm.map (upL us a)) x (J us a now)=(mkL us lm x now).map (upL us a):=by
 unfold mkL;rw[posM_map];cases hq:nZ lm x 0 with
 | none=>simp only[Option.map_none,List.map_append,bO,eS];rfl
 | some q=>
  obtain⟨p,hp,_,hp2⟩:=pP hq;obtain⟨k,hk,hk2⟩:=hl p hp;simp only[bI];rw[←hp2,hk,cQ,cQ,J_distr h ha hn hk2,setM_map]
theorem insP_map{us:List Nat}{a:Nat}(x:Int×Int):∀l:List (Int×Int),insP (upL us a x) (l.map (upL us a))=(insP x l).map (upL us a)
 | []=>rfl
 | y::r=>by
  rw[bO,insP,insP];by_cases e:x.1<y.1
  ·rw[aH (show(upL us a x).1<(upL us a y).1 from e),aH e];rfl
  ·rw[aD (show ¬(upL us a x).1<(upL us a y).1 from e),aD e,bO,insP_map x r]
theorem sortP_map{us:List Nat}{a:Nat}:∀l:List (Int×Int),eG (l.map (upL us a))=(eG l).map (upL us a)
 | []=>rfl
 | x::r=>by rw[bO,eG,eG,sortP_map r,insP_map]
def JN(us:List Nat)(p q:Nat)(s t:Lk):Prop:=s.lk=t.lk∧t.ec<us.length∧s.ec=J us q t.ec∧LabN us t.lm∧s.lm=t.lm.map (upL us (J us p q))
theorem join_rel{E F:LEn}{ss:List (List UInt8)}{d e:D}(h:EOk E ss d e)(hF:EOk F ss d e)(hu:F.us=E.us)(hlo:F.low=E.low)(hR:F.R=E.R)(hpc:F.pc=E.low){q:Nat}(hq:q<E.us.length):
  Rel2 E F (EqG E.us) (JN E.us E.pc q) (JN E.us E.pc q) where
 tick s t:=by rintro⟨h1,h2,h3,h4,h5⟩;exact⟨h1,by show s.lk+1=t.lk+1;rw[h1],h2,h3,h4,h5⟩
 num k r hk hr:=by rw[hlo];exact⟨rfl,h.tg hk hr⟩
 mark s t x:=by
  rintro⟨h1,h2,h3,h4,h5⟩;have hj:=(h.lt.j h.pc hq).2;have hm:=J_low h.lt h2 h.ll h.lb;refine⟨h1,h2,h3,?_,?_⟩
  ·intro p hp;rcases mkL_mem hp with hp|rfl|⟨o,ho,rfl⟩
   ·exact h4 p hp
   ·exact⟨_,rfl,by rw[hu,hpc];exact(h.lt.j h.ll h2).2⟩
   ·obtain⟨k,hk,hk2⟩:=h4 _ ho;have hk:o=(k:Int):=hk;subst hk;exact⟨_,rfl,by rw[hu,hpc,cQ];exact(h.lt.j (h.lt.j h.ll h2).2 hk2).2⟩
  ·show mkL E.us s.lm x (J E.us E.pc s.ec)=(mkL F.us t.lm x (J F.us F.pc t.ec)).map _;rw[hu,hpc,hm.2,h3,h5,←J_assoc h.lt h.pc hq h2];exact mkL_map h.lt hj h2 h4 x
 prim x ts us s t p:=by
  intro hT hl;rintro⟨h1,h2,h3,h4,h5⟩ hp;obtain⟨rfl,hg⟩:=eqG_all hT;obtain⟨g1,w,c,hw,hc,hs⟩:=prim_ok h hl hg hp;have hp2:=hs s;rw[hp]at hp2;have e2:p.2=⟨afN E.us s.ec w c,s.lk,s.lm⟩:=by
   have:=congrArg (fun r=>match r with|Lo.ok p=>p.2|_=>s) hp2
   exact this
  have hpF:∀s',nC F x ts s'=nC E x ts s':=fun s'=>by unfold nC;rw[hu,hR]
  refine⟨(p.1,⟨afN E.us t.ec w c,t.lk,t.lm⟩),by rw[hpF];exact hs t,⟨rfl,g1⟩,?_⟩
  rw[e2];have j1:=(h.lt.j h2 hw).2;refine⟨h1,(h.lt.j j1 hc).2,?_,h4,h5⟩;show afN E.us s.ec w c=J E.us q (afN E.us t.ec w c);unfold afN;rw[h3,J_assoc h.lt hq h2 hw,J_assoc h.lt hq j1 hc]
theorem B4_eq:B4=(.seq Bj1 (.seq Bj2 (.seq Bj3 (.seq Bj4 (.seq Bj5 (.seq Bj6 (.seq Bj7 (.seq Bj8 (.seq Bj9 (.seq Bj10 (.seq Bj11 (.seq Bj12 .ret)))))))))))):=rfl
structure IJ (d e v f ds1 ds2:D) (JJ:Nat) (k r a b c' ec lk:Int) (k2 r2 a2 b2 c2 ec2 lk2:Int) (t:Tm) (s:St):Prop where
 s0:sget s 0=some (.fix 30 [d,e,v,f])
 s2:sget s 2=some (.fix 40 [.int .i64 k,.int .i64 r,.int .i64 a,.int .i64 b,.int .i64 c',.int .i64 ec,ds1,.int .i64 lk])
 s3:sget s 3=some (.fix 40 [.int .i64 k2,.int .i64 r2,.int .i64 a2,.int .i64 b2,.int .i64 c2,.int .i64 ec2,ds2,.int .i64 lk2])
 t3:tget t 3 = .ptr 0 0
 t7:tget t 7 = .ptr 2 0
 t12:tget t 12 = .ptr 3 0
 t15:tget t 15 = .int .i64 (JJ:Nat)
theorem IJ.tm{d e v f ds1 ds2:D}{JJ:Nat}{k r a b c' ec lk k2 r2 a2 b2 c2 ec2 lk2:Int}{t t':Tm}{s:St}(h:IJ d e v f ds1 ds2 JJ k r a b c' ec lk k2 r2 a2 b2 c2 ec2 lk2 t s)(ht:∀i,i=3∨i=7∨i=12∨i=15→tget t' i=tget t i):IJ d e v f ds1 ds2 JJ k r a b c' ec lk k2 r2 a2 b2 c2 ec2 lk2 t' s:=
 ⟨h.s0,h.s2,h.s3,by rw[ht 3 (by simp),h.t3],by rw[ht 7 (by simp),h.t7],by rw[ht 12 (by simp),h.t12],by rw[ht 15 (by simp),h.t15]⟩
theorem c4(n:Nat){ss:List (List UInt8)}{us:List Nat}{d e v f dx:D}{vs:List Vr}{fs:List Fd}{x:List Nd}(hd:Sl 1 iA ss d)(he:Sl 1 u8C us e)(hu:iS us)(hv:Sl 6 vrC vs v)(hf:Sl 3 fdC fs f)(hfs:∀x∈fs,FdIn x)(hx:Sl 7 bU x dx)(pc ec:Int):
  cl (n+14) 4 [.agg [d,e,v,f],.agg [.int .i64 pc,.int .i64 ec],dx]=some (.bool true,true):=by
 rw[cN (A:=A4) rfl (n+14) _ rfl,show A4.body=B4 from rfl,B4_eq]
 have htk:dH [d,e,v,f] 0 (some 4)=some (.agg [d,e,v,f]):=rfl;obtain⟨b,h10,hb⟩:=c10 (n+12) hd he hv hf hfs;cases b
 case true=>
  simp only[Bj1,Bj2,Ab.abq];simp only[z2,seval,hd.nag,he.nag,hv.nag,hf.nag,htk,aF (f:=10) rfl,aR,hd.fz,he.fz,hv.fz,hf.fz,h10,k12,A4];rfl
 obtain⟨b,h11,hb'⟩:=c11 (n+13) hx;cases b
 case true=>
  simp only[Bj1,Bj2,Ab.abq];simp only[z2,seval,hd.nag,he.nag,hv.nag,hf.nag,htk,aF (f:=10) rfl,aF (f:=11) rfl,aR,hd.fz,he.fz,hv.fz,hf.fz,hx.fz,h10,h11,k12,A4];rfl
 have hI:=in22 hd he hu hv hf hfs hx (hb rfl) (hb' rfl);rcases look_cases n hI pc ec with⟨a,er,h0,h13⟩|⟨low,p,q,r,rfl,rfl,hE,hq,hG,hev,hX,hr,h13⟩
 ·simp only[Bj1,Bj2,Bj3,Bj4,Ab.abq];unfold zl0 at h13;simp only[z0,seval,hd.nag,he.nag,hv.nag,hf.nag,aF (f:=10) rfl,aF (f:=11) rfl,aF (f:=13) rfl,aR,hd.fz,he.fz,hv.fz,hf.fz,hx.fz,h10,h11,h13,k12,i20,eE,dJ,bH h0,A4];rfl
 have hp:p<us.length:=hE.pc;have hL:Lt ss us d e:=hE.lt;have hlow:low<us.length:=hE.ll;have hF:EOk ⟨us,low,low,RDl n d e⟩ ss d e:=⟨hE.lt,hE.low,hE.ll,hE.lb,hE.ll,hE.R⟩;have hgb:∀g∈fs,rM g.body:=fun g hg=>(hG.fb g hg).ex
 have hvs:∀l:List Vr,(∀v∈l,tyE us (jK us) v.ty=0)→oJ (VRl (EqG us)) l l:=fun l=>by
  induction l with
  | nil=>exact fun _=>.nil
  | cons a l ih=>exact fun hl=>.cons ⟨rfl,rfl,(tl_toT (hl a (bG ..))).2⟩ (ih fun v hv=>hl v (bD _ hv))
 obtain⟨r',hr',⟨hT,hTG⟩,hlk,hec',hec,hlab,hlm⟩:=lok_rel (join_rel hE hF rfl rfl rfl rfl hq) (fs.length+1) fs hgb vs vs x ⟨q,0,[]⟩ ⟨low,0,[]⟩ (hvs vs hG.vt) hX.ex rfl ⟨rfl,hlow,(J_low hL hq hlow hE.lb).1.symm,fun _ h=>(List.not_mem_nil h).elim,rfl⟩ r hr
 have hj0:=(hL.j hp hq).2;have h16:=c16 (n+8) hL hlow hE.lb;have h17:=c17 (n+8) hL hq hec';have h17b:=c17 (n+8) hL hp hq;have h13b:=c13 n (low:Nat) (low:Nat) hL hI.hE hev hE.low hE.ll hE.lb hx hI.hxl hI.hxn;unfold lookD at h13b;rw[aD (by omega),aD (by obtain⟨a0,h0⟩:=hX;rw[exE_eq h0];decide),cQ,hr']at h13b
 replace h13b:cl (n+13) 13 [.agg [d,e,v,f],.int .i64 (low:Nat),.int .i64 (low:Nat),dx]=some (lookR r',true):=h13b;have hsl1:=sites_sl r.2.lm;have hsl2:=sites_sl r'.2.lm;have hs12:eG r.2.lm=(eG r'.2.lm).map (upL us (J us p q)):=by rw[hlm,sortP_map]
 have hl12:r.2.lm.length=r'.2.lm.length:=by rw[hlm,eY]
 rw[hs12]at hsl1;have hll:(eG r'.2.lm).length=r'.2.lm.length:=(iV r'.2.lm).length_eq;have hlki:=(wW hF (fs.length+1) fs hgb).2 vs x _ r' hX.ex hG.vt (show SG us ⟨low,0,[]⟩ from⟨hlow,fun _ h=>(List.not_mem_nil h).elim,dB _⟩) hr'
 have hkp:=wV (kp_pres _) kp_tick (fs.length+1) fs hgb vs x _ r' hX.ex (kp_tick ⟨low,0,[]⟩ ⟨List.nodup_nil,aJ _⟩) hr';have hlen:r'.2.lm.length<10000:=by have:=hkp.2;have:=hlki.2.lk;omega
 have hlab':∀(i:Nat) (hi:i<(eG r'.2.lm).length),∃k:Nat,(eG r'.2.lm)[i].2=k∧k<us.length:=fun i hi=>hlab _ ((iV r'.2.lm).mem_iff.1 (cG hi))
 unfold lookR at h13 h13b;unfold e2 at h16 h17 h17b;rw[hs12]at h13;generalize hds:D.sl false r.2.lm.length (en2 ((eG r'.2.lm).map (upL us (J us p q))))=ds at *;generalize hds2:D.sl false r'.2.lm.length (en2 (eG r'.2.lm))=ds2 at *;have hdn:=hsl1.nag;have hdn2:=hsl2.nag;have len1:=hsl1.len;rw[eY]at len1;have len2:=hsl2.len;rw[←hT,←hlk]at h13b;generalize hJ:J us p q=JJ at *
 have htk8:∀a b c d e f g h:D,dH [a,b,c,d,e,f,g,h] 0 (some 5)=some (.agg [a,b,c,d,e]):=fun _ _ _ _ _ _ _ _=>rfl
 have hne:∀i:Int,decide (i≠i)=false:=fun i=>aK (fun h=>h rfl)
 have hq0:J us q r'.2.ec=r.2.ec:=hec.symm;rw[hq0]at h17;simp only[Bj1,Bj2,Bj3,Bj4,Bj5,Bj6,Bj7,Bj8,Bj9,Bj10,Bj11,Ab.abq]
 simp only[z0,seval,hd.nag,he.nag,hv.nag,hf.nag,hdn,hdn2,aF (f:=10) rfl,aF (f:=11) rfl,aF (f:=13) rfl,aF (f:=16) rfl,aF (f:=17) rfl,aR,hd.fz,he.fz,hv.fz,hf.fz,hx.fz,h10,h11,h13,h13b,h16,h17,h17b,i20,eE,dJ,show decide ((0:Int)≠0)=false from rfl,Bool.or_false,Bool.or_true,aS,htk8,cmp5,len1,len2,hne]
 generalize hz:zloop KK _ _=rl
 refine zfor rl hz (eG r'.2.lm).length (fM (by omega)) (by omega) (fun i t s c=>IJ d e v f ds ds2 JJ r.1.k r.1.r (r.1.x:Nat) (r.1.y:Nat) (r.1.z:Nat) (r.2.ec:Nat) (r.2.lk:Nat) r.1.k r.1.r (r.1.x:Nat) (r.1.y:Nat) (r.1.z:Nat) (r'.2.ec:Nat) (r.2.lk:Nat) t s) (by simp[aE]) ⟨by simp[aE],by simp[aE],by simp[aE],by simp[aE],by simp[aE],by simp[aE],by simp[aE]⟩ ?_
 rintro i t s c hi hB hti;by_cases hlt:i<(eG r'.2.lm).length
 ·obtain⟨k,hk,hk1⟩:=hlab' i hlt;have hlt1:i<((eG r'.2.lm).map (upL us JJ)).length:=by rw[eY];exact hlt
  have h17c:=c17 (n+8) hL hj0 hk1;unfold e2 at h17c;have ia:=hsl1.ia hlt1 (k:=.i64);have ib:=hsl2.ia hlt (k:=.i64);have at0:=hsl1.cell hlt1 (show 0<2 by decide)
  have at1:=hsl1.cell hlt1 (show 1<2 by decide)
  have bt0:=hsl2.cell hlt (show 0<2 by decide)
  have bt1:=hsl2.cell hlt (show 1<2 by decide)
  have hat:(uO ((eG r'.2.lm).map (upL us JJ))[i])[1]?=some (.int .i64 (J us JJ k:Nat)):=by rw[List.getElem_map];unfold uO upL;rw[hk,cQ];rfl
  have hat0:(uO ((eG r'.2.lm).map (upL us JJ))[i])[0]?=some (.int .i64 (eG r'.2.lm)[i].1):=by rw[List.getElem_map];rfl
  have hbt:(uO (eG r'.2.lm)[i])[1]?=some (.int .i64 (k:Nat)):=by unfold uO;rw[hk];rfl
  have hbt0:(uO (eG r'.2.lm)[i])[0]?=some (.int .i64 (eG r'.2.lm)[i].1):=rfl;rw[hat]at at1;rw[hbt]at bt1;rw[hat0]at at0;rw[hbt0]at bt0
  simp only[z0,seval,hti,hB.t3,hB.t7,hB.t12,hB.t15,hB.s0,hB.s2,hB.s3,len1,len2,eD hlt,ia,ib,at0,at1,bt0,bt1,hd.nag,he.nag,aF (f:=17) rfl,aR,hd.fz,he.fz,h17c,eJ,cV,AOp.kd,zop,tks,cD,eA,show decide ((0:Int)≠0)=false from rfl,hne,aT,bP]
  exact⟨hlt,trivial,trivial,trivial,hB.tm (by rintro i (rfl|rfl|rfl|rfl)<;>simp[aE])⟩
 have hie:i=(eG r'.2.lm).length:=by omega
 subst hie;simp only[Bj12,Ab.abq];simp only[z0,seval,hti,hB.t7,hB.s2,len1,kC (aJ (eG r'.2.lm).length),k12,A4];rfl
end
end Zv
