/- Calls that are known by what they come to, so many levels deep; results are frozen. Conditions: none. -/
import Derived.Test.YtnpoohbeicakkaaGreatDoorZAI
import Derived.ChangeArms
import Derived.OpenShut
import Derived.ReadAgain
import Derived.ChangeCalls
import Derived.RowKit
import Derived.WalkKit
import Derived.ProofKit
set_option linter.unusedVariables false
set_option linter.unusedSimpArgs false
namespace Zv
open Go
noncomputable section
def frz(p:Bool):Nat→St→D→Option D
 | 0,_,_=>none
 | n+1,s,d=>
  match d with
  | .agg cs=>(cs.mapM (frz p n s)).map .agg
  | .tup cs=>(cs.mapM (frz p n s)).map .tup
  | .iface t d=>(frz p n s d).map (.iface t)
  | .fn f a b=>do let a ←a.mapM (frz p n s);let b ←b.mapM (frz p n s);some (.fn f a b)
  | .ms nm off sz len cap=>
   match sget s nm with
   | some (.fix _ cs)=>bif Nat.ble (off+len*sz) cs.length then(((cs.drop off).take (len*sz)).mapM (frz p n s)).map (.sl (Nat.beq cap len) len) else none
   | some (.grow _ cs)=>bif Nat.ble (off+len*sz) cs.length then(((cs.drop off).take (len*sz)).mapM (frz p n s)).map (.sl (Nat.beq cap len) len) else none
   | _=>none
  | .gs nm off sz len=>
   match sget s nm with
   | some (.grow _ cs)=>bif Nat.ble (off+len*sz) cs.length then(((cs.drop off).take (len*sz)).mapM (frz p n s)).map (.sl false len) else none
   | _=>none
  | .ptr nm off=>
   match sget s nm with
   | some (.fix _ cs)=>(cs.mapM (frz p n s)).map fun cs=>.iptr cs off
   | _=>none
  | .sl ex len cs=>bif p then none else some (.sl ex len cs)
  | .iptr cs off=>bif p then none else some (.iptr cs off)
  | .it _=>none
  | .mp _=>none
  | .yl _=>none
  | .un=>some .un
  | .bool b=>some (.bool b)
  | .int k i=>some (.int k i)
  | .str b=>some (.str b)
  | .nils=>some .nils
  | .nilp=>some .nilp
  | .nilif=>some .nilif
  | .nilfn=>some .nilfn
  | .nilm=>some .nilm
  | .adr b o=>some (.adr b o)
section
variable {E:Env} {M0:Nat→Prop} {w0:World} {N:Nat} {μ:Mu} {a:Act} {w:World} {x:AS}
theorem rH(h:Rel E M0 w0 N μ a w x){p:Bool}{Q:Nat→Prop}(hq:∀nm l b,μ nm=some l→l.blk=some b→¬Q b)(hp:p=false→∀b,b<w.heap.size→Q b→Mm M0 μ b):
  ∀(n:Nat) (d d':D) (v:Value),frz p n x.s d=some d'→aP (Mm M0 μ) w μ d v→aP Q w mu0 d' v:=by
 intro n
 induction n with
 | zero=>intro d d' v hf;simp[frz]at hf
 | succ n ih=>
  intro d d' v hf hv;have lists:∀(cs ds:List D) (vs:List Value),cs.mapM (frz p n x.s)=some ds→aX (Mm M0 μ) w μ cs vs→aX Q w mu0 ds vs:=fun cs ds vs hm hr=>by
   obtain⟨h1,h2⟩:=uD (R:=aP (Mm M0 μ) w μ) (R':=aP Q w mu0) hm hr.length (fun i c v hc hv=>hr.at hc hv) (fun c d v hc hf hr=>ih c d v hf hr)
   exact aX.mk h1 h2
  have cells:∀(b off:Nat) (cs ds:List D),cs.mapM (frz p n x.s)=some ds→(∀(i:Nat) (e:D),cs[i]?=some e→∃v',w.cell? ⟨b,off+i,none⟩=some v'∧aP (Mm M0 μ) w μ e v')→iD Q w b off ds:=by
   intro b off cs ds hm hc;obtain⟨h1,h2⟩:=lZ hm;refine iD.mk fun i d hd=>?_
   have hi:i<cs.length:=by
    rw[cH]at hd;obtain⟨h,_⟩:=hd;omega
   have hci:cs[i]?=some cs[i]:=aI hi;obtain⟨v',hv',hr⟩:=hc i _ hci;exact⟨v',hv',ih _ _ _ (h2 i _ d hci hd) hr⟩
  have old:p=false→∀(d:D) (v:Value),d.pure=true→aP (Mm M0 μ) w μ d v→aP Q w mu0 d v:=fun e d v hpu hr=>
   aP.mono (⟨aJ _,fun _ _ _=>rfl,hp e⟩:Ext (Mm M0 μ) w Q w) d v (fV.refl _) (aP.pure d v hpu hr)
  cases d<;>simp only[frz,reduceCtorEq]at hf
  case agg cs=>
   simp only[aG]at hf;obtain⟨ds,hm,rfl⟩:=hf;simp only[aP]at hv ⊢;obtain⟨vs,rfl,hr⟩:=hv;exact⟨vs,rfl,lists _ _ _ hm hr⟩
  case tup cs=>
   simp only[aG]at hf;obtain⟨ds,hm,rfl⟩:=hf;simp only[aP]at hv ⊢;obtain⟨vs,rfl,hr⟩:=hv;exact⟨vs,rfl,lists _ _ _ hm hr⟩
  case iface t d=>
   simp only[aG]at hf;obtain⟨d',hd,rfl⟩:=hf;simp only[aP]at hv ⊢;obtain⟨y,rfl,hr⟩:=hv;exact⟨y,rfl,ih _ _ _ hd hr⟩
  case fn f a b=>
   simp only[aB,aA,aC]at hf;obtain⟨p',hp',q',hq',rfl⟩:=hf;simp only[aP]at hv ⊢;obtain⟨va,vb,rfl,h1,h2⟩:=hv;exact⟨va,vb,rfl,lists _ _ _ hp' h1,lists _ _ _ hq' h2⟩
  case ms nm off sz len cap=>
   simp only[aP]at hv;obtain⟨l,b,h1,h2,rfl,h3,h4⟩:=hv;have key:∀(blk:Blk) (cs:List D),sget x.s nm=some blk→dX blk=some cs →
     (bif Nat.ble (off+len*sz) cs.length then(((cs.drop off).take (len*sz)).mapM (frz p n x.s)).map (D.sl (Nat.beq cap len) len) else none)=some d'→aP Q w mu0 d' (.slice (some ⟨b,off,none⟩) len cap):=by
    intro blk cs hg hb hf;cases hle:Nat.ble (off+len*sz) cs.length<;>rw[hle]at hf
    ·cases hf
    simp only[aS,aG]at hf;obtain⟨ds,hm,rfl⟩:=hf;simp only[aP];have hlt:b<w.heap.size:=(h.own nm l b h1 h2).2;refine⟨_,_,rfl,h3,fun he=>aR he,.inr ⟨b,off,rfl,hq nm l b h1 h2,hlt,?_⟩⟩
    refine cells b off _ _ hm (fun i e hi=>?_)
    rw[eL]at hi;split at hi
    ·exact tN h hg hb h1 h2 off i e hi
    ·cases hi
   split at hf
   ·rename_i cs hg;exact key _ cs hg rfl hf
   ·rename_i cs hg;exact key _ cs hg rfl hf
   ·cases hf
  case gs nm off sz len=>
   simp only[aP]at hv;obtain⟨⟨lb,lc⟩,cap,h1,rfl,h3,h4,h5⟩:=hv;split at hf
   ·rename_i cs hg;cases hle:Nat.ble (off+len*sz) cs.length<;>rw[hle]at hf
    ·cases hf
    simp only[aS,aG]at hf;obtain⟨ds,hm,rfl⟩:=hf;simp only[aP];refine⟨_,_,rfl,h3,(fun he=>by simp at he),?_⟩
    cases lb with
    | none=>have:=h5 rfl;left;omega
    | some b=>
     have hlt:b<w.heap.size:=(h.own nm _ b h1 rfl).2;refine .inr ⟨b,off,rfl,hq nm _ b h1 rfl,hlt,cells b off _ _ hm (fun i e hi=>?_)⟩
     rw[eL]at hi;split at hi
     ·exact tN h hg rfl h1 rfl off i e hi
     ·cases hi
   ·cases hf
  case ptr nm off=>
   simp only[aP]at hv;obtain⟨l,b,h1,h2,rfl⟩:=hv;split at hf
   ·rename_i cs hg;simp only[aG]at hf;obtain⟨ds,hm,rfl⟩:=hf;have hlt:b<w.heap.size:=(h.own nm l b h1 h2).2;simp only[aP];refine⟨b,0,by simp,hq nm l b h1 h2,hlt,cells b 0 _ _ hm (fun i e hi=>?_)⟩
    exact tN h hg rfl h1 h2 0 i e (by simpa using hi)
   ·cases hf
  case sl ex len cs=>
   cases p
   ·cases hf;exact old rfl _ _ rfl hv
   ·cases hf
  case iptr cs off=>
   cases p
   ·cases hf;exact old rfl _ _ rfl hv
   ·cases hf
  all_goals (cases hf;first|exact aP.flat _ _ rfl hv|(simp only[aP]at hv ⊢;exact hv))
theorem frzs_rel(h:Rel E M0 w0 N μ a w x){p:Bool}{Q:Nat→Prop}(hq:∀nm l b,μ nm=some l→l.blk=some b→¬Q b)(hp:p=false→∀b,b<w.heap.size→Q b→Mm M0 μ b)
  {n:Nat} {ds az:List D} {vs:List Value} (hf:ds.mapM (frz p n x.s)=some az) (hv:aX (Mm M0 μ) w μ ds vs):aX Q w mu0 az vs:=by
 obtain⟨h1,h2⟩:=uD (R:=aP (Mm M0 μ) w μ) (R':=aP Q w mu0) hf hv.length (fun i c v hc hv'=>hv.at hc hv') (fun c d v _ hf hr=>rH h hq hp n c d v hf hr)
 exact aX.mk h1 h2
end
mutual
theorem frz_pure{s:St}:∀(n:Nat) (d d':D),d.pure=true→frz false n s d=some d'→d'=d
 | 0,d,d',_,h=>by simp[frz]at h
 | n+1,d,d',hp,h=>by
  cases d<;>simp only[frz,reduceCtorEq,cF,aC]at h<;>simp only[D.pure,reduceCtorEq,cN]at hp
  case agg cs=>
   simp only[aG]at h;obtain⟨ds,hm,rfl⟩:=h;rw[nZ n cs ds hp hm]
  case tup cs=>
   simp only[aG]at h;obtain⟨ds,hm,rfl⟩:=h;rw[nZ n cs ds hp hm]
  case iface t d=>
   simp only[aG]at h;obtain⟨e,hm,rfl⟩:=h;rw[frz_pure n d e hp hm]
  case fn f a b=>
   simp only[bE]at hp;simp only[aB,aA,aC]at h;obtain⟨p',hp',q',hq',rfl⟩:=h;rw[nZ n a p' hp.1 hp',nZ n b q' hp.2 hq']
  all_goals exact h.symm
theorem nZ{s:St}:∀(n:Nat) (ds az:List D),D.pures ds=true→ds.mapM (frz false n s)=some az→az=ds
 | n,[],az,_,h=>by simp at h;exact h
 | n,d::ds,az,hp,h=>by
  simp only[D.pures,bE]at hp;simp only[List.mapM_cons,aB,aA,Option.pure_def,aC]at h;obtain⟨e,h1,r,h2,rfl⟩:=h;rw[frz_pure n d e hp.1 h1,nZ n ds r hp.2 h2]
end
def PureB(E:Env)(f:FuncId)(args:List D)(d:D)(fresh:Bool):Prop:=
 ∀(M:Nat→Prop) (w:World) (vals:List Value),(∀b,M b→b<w.heap.size)→GRel E M w→aX M w mu0 args vals →
  callable E.P f=true∧Calls E.P f vals.toArray w fun e w'=>∃v,e = .returned v∧aP M w' mu0 d v∧(fresh=true→aP (fun b=>b<w.heap.size) w' mu0 d v)∧w.heap.size≤w'.heap.size∧uP w w' ∧
   ∀b,b<w.heap.size→w'.heap[b]?=w.heap[b]?
def pcall(o:List D→Option (D×Bool))(args:List D)(s:St)(c:Nat):FR:=
 match args.mapM (frz false 20 s) with
 | some fa=>match o fa with
  | some p=>bif p.2||(p.1.flat||D.pures args) then .ok (.ret p.1) s c else .no
  | none=>.no
 | none=>.no
theorem kU.mm_lt{E:Env}{M0:Nat→Prop}{w0:World}{μ:Mu}{w:World}{s:St}{c:Nat}(h:kU E M0 w0 μ w s c)(b:Nat)(hb:Mm M0 μ b):b<w.heap.size:=by
 rcases hb with hb|⟨nm,l,h1,h2⟩
 ·exact bY (h.m0lt b hb) h.size
 ·exact(h.own nm l b h1 h2).2
theorem sp_pcall{E:Env}{f:Nat}{o:List D→Option (D×Bool)}(ho:∀fa p,o fa=some p→PureB E f fa p.1 p.2):SpOK E f (pcall o):=by
 intro M0 w0 μ w s c args vals out s' c' h hv hs;unfold pcall at hs;split at hs
 ·rename_i fa hfa;split at hs
  ·rename_i p hp;obtain⟨d,fresh⟩:=p;cases hc:(fresh||(d.flat||D.pures args))<;>simp only[hc,aS,cF,reduceCtorEq]at hs
   cases hs;have hB:=ho fa _ hp;have hm0:∀nm l b,μ nm=some l→l.blk=some b→¬M0 b:=fun nm l b h1 h2 hm=>by have:=h.m0lt b hm;have:=h.own nm l b h1 h2;omega
   have hargs:aX M0 w mu0 fa vals:=frzs_rel h hm0 (fun _ b _ hb=>.inl hb) hfa hv
   have hlt0:∀b,M0 b→b<w.heap.size:=fun b hb=>bY (h.m0lt b hb) h.size
   have back:∀{v:Value} {w':World} {M:Nat→Prop},aP M w' mu0 d v→(∀b,b<w'.heap.size→Mm M0 μ b→M b)→aP (Mm M0 μ) w' μ d v:=fun {v w' M} hr hM=>
    aP.mono (⟨aJ _,fun _ _ _=>rfl,hM⟩:Ext M w' (Mm M0 μ) w') d v (mu0_le μ) hr
   by_cases hf:fresh=true
   ·obtain⟨hcb,hcall⟩:=hB M0 w vals hlt0 h.globals0 hargs;refine⟨hcb,hcall.mono ?_⟩;rintro e w' ⟨v,rfl,_,hfr,hsz,henv,hsame⟩;obtain⟨hR,hF⟩:=Rel.more h hsz henv hsame;exact⟨μ,hR,hF,v,rfl,back (hfr hf) fun b _ hb=>h.mm_lt b hb⟩
   ·by_cases hfl:d.flat=true
    ·obtain⟨hcb,hcall⟩:=hB M0 w vals hlt0 h.globals0 hargs;refine⟨hcb,hcall.mono ?_⟩;rintro e w' ⟨v,rfl,hvr,_,hsz,henv,hsame⟩;obtain⟨hR,hF⟩:=Rel.more h hsz henv hsame;exact⟨μ,hR,hF,v,rfl,aP.flat d v hfl hvr⟩
    ·have hpu:D.pures args=true:=by
      cases e1:fresh
      ·cases e2:d.flat
       ·rw[e1,e2]at hc;simpa using hc
       ·exact absurd e2 hfl
      ·exact absurd e1 hf
     have hid:fa=args:=nZ 20 _ _ hpu hfa;subst hid;have hargs':aX (Mm M0 μ) w mu0 fa vals:=aX.pure fa vals hpu hv;obtain⟨hcb,hcall⟩:=hB (Mm M0 μ) w vals h.mm_lt h.globals hargs';refine⟨hcb,hcall.mono ?_⟩;rintro e w' ⟨v,rfl,hvr,_,hsz,henv,hsame⟩;obtain⟨hR,hF⟩:=Rel.more h hsz henv hsame;exact⟨μ,hR,hF,v,rfl,back hvr fun b _ hb=>hb⟩
  ·cases hs
 ·cases hs
def pev(cx:Cx)(k m f:Nat)(args:List D):Option (D×Bool):=
 match zcall cx k (zN cx k m) f args st0 0 with
 | .ok (.ret r) s _=>match frz true 20 s r with
  | some d=>some (d,true)
  | none=>(frz false 20 s r).map fun d=>(d,false)
 | _=>none
theorem pev_sound{E:Env}{cx:Cx}(H:POK E cx){k m f:Nat}{args:List D}{p:D×Bool}(h:pev cx k m f args=some p):PureB E f args p.1 p.2:=by
 intro M w vals hM hG hv;unfold pev at h;split at h
 ·rename_i r s' c' hr;have hS:kU E M w mu0 w st0 0:=
   {size:=aJ _,old:=fun _ _=>rfl,m0lt:=hM,defers:=by simp only[iL],n:=dK _,tm:=fun n=>by rw[wB];simp only[aP]
    st:=fun nm blk l hl=>by simp[mu0]at hl
    lt:=fun nm l hl=>by simp[mu0]at hl
    own:=fun nm l b hl=>by simp[mu0]at hl
    inj:=fun n m l l' b _ _ hl=>by simp[mu0]at hl
    glob:=hG,env:=⟨rfl,rfl⟩ }
  have hx:Ext M w (Mm M mu0) w:=⟨aJ _,fun _ _ _=>rfl,fun b hb hm=>by
   rcases hm with hm|⟨nm,l,e,_⟩
   ·exact hm
   ·simp[mu0]at e⟩
  obtain⟨hcb,hc⟩:=vU H.body (⟨(zn_ok H k m).1,H.meth,H.glob,H.mixed⟩:Ctx E cx (zN cx k m).fn) (zn_ok H k m).2 k hS (aX.mono hx _ _ (fV.refl _) hv) hr;refine⟨hcb,hc.mono ?_⟩;rintro e w' ⟨μ',hS',hF,v,rfl,hvr⟩;have hnm:∀nm l b,μ' nm=some l→l.blk=some b→¬M b:=fun nm l b h1 h2 hm=>by have:=hM b hm;have:=(hS'.own nm l b h1 h2).1;omega
  have hnw:∀nm l b,μ' nm=some l→l.blk=some b→¬(b<w.heap.size):=fun nm l b h1 h2 hm=>by have:=(hS'.own nm l b h1 h2).1;omega
  have tail:w.heap.size≤w'.heap.size∧uP w w'∧∀b,b<w.heap.size→w'.heap[b]?=w.heap[b]?:=⟨hF.size,hS'.env,fun b hb=>hS'.old b hb⟩
  split at h
  ·rename_i d hd;cases h;exact⟨v,rfl,rH hS' hnm (fun e=>by cases e) 20 r d v hd hvr,fun _=>rH hS' hnw (fun e=>by cases e) 20 r d v hd hvr,tail⟩
  ·rename_i hd;simp only[aG]at h;obtain⟨d,hd,rfl⟩:=h;exact⟨v,rfl,rH hS' hnm (fun _ b _ hb=>.inl hb) 20 r d v hd hvr,(fun e=>by cases e),tail⟩
 ·cases h
/-! How the calls of a run are told. -/
section
variable {B:Cx} {ps:Nat→Bool} {k m:Nat}
def pout(r:FR):Option (D×Bool):=match r with
 | .ok (.ret r) s _=>match frz true 20 s r with
  | some d=>some (d,true)
  | none=>(frz false 20 s r).map fun d=>(d,false)
 | _=>none
end
def zcond(v:D)(p q:R):R:=match v with
 | .bool r=>bif r then p else q
 | _=>.no
@[congr] theorem zcond_congr {v v':D} (h:v=v') (p q:R):zcond v p q=zcond v' p q:=by rw[h]
@[congr] theorem zbind_congr {r r':R} (h:r=r') (K:AS→R):zbind r K=zbind r' K:=by rw[h]
def mG(id:Nat)(r:R):R:=R.rec .no (zblk id) r
section
variable (cx:Cx) (cl:CL) (k:Nat) (x:AS)
theorem zC_cond(c:Arg)(a b:AC):zC (.cond c a b) cx cl k x=zcond (c.ev cx.G x.t) (zC a cx cl k x) (zC b cx cl k x):=by
 show vV c a b (zC a) (zC b) cx cl k x=_;unfold vV zcond;cases c.ev cx.G x.t<;>try rfl
 rename_i r;cases r<;>rfl
end
theorem eZ:(∀(cx:Cx) (cl:CL) (k:Nat) (x:AS),zC .skip cx cl k x = .ok .normal x) ∧
  (∀(cx:Cx) (cl:CL) (k:Nat) (x:AS) (ops:List cR),zC (.reg none ops) cx cl k x=nL cx cl ops x) ∧
  (∀(cx:Cx) (cl:CL) (k:Nat) (x:AS) (a b:AC),zC (.seq a b) cx cl k x=zbind (zC a cx cl k x) (zC b cx cl k)) ∧
  (∀(cx:Cx) (cl:CL) (k:Nat) (x:AS) (c:Arg) (a b:AC),zC (.cond c a b) cx cl k x=zcond (c.ev cx.G x.t) (zC a cx cl k x) (zC b cx cl k x)) ∧
  (∀(cx:Cx) (cl:CL) (k:Nat) (x:AS) (i:Nat) (a:AC),zC (.block i a) cx cl k x=mG i (zC a cx cl k x)) ∧
  (∀(cx:Cx) (cl:CL) (k:Nat) (x:AS) (a:AC),zC (.loop a) cx cl k x=zloop k (zC a cx cl k) x) ∧
  (∀(cx:Cx) (cl:CL) (k:Nat) (x:AS) (i:Nat),zC (.exit i) cx cl k x = .ok (.exit i) x) ∧
  (∀(cx:Cx) (cl:CL) (k:Nat) (x:AS) (a:AC),zC (.scope a) cx cl k x=zC a cx cl k x) ∧
  (∀(cx:Cx) (cl:CL) (k:Nat) (x:AS),zC .ret cx cl k x = .ok .ret x) ∧
  (∀(p q:R),zcond (.bool true) p q=p)∧(∀(p q:R),zcond (.bool false) p q=q) ∧
  (∀(x:AS) (K:AS→R),zbind (.ok .normal x) K=K x)∧(∀(i:Nat) (x:AS) (K:AS→R),zbind (.ok (.exit i) x) K = .ok (.exit i) x) ∧
  (∀(x:AS) (K:AS→R),zbind (.ok .ret x) K = .ok .ret x)∧(∀(c:Ch) (x:AS) (K:AS→R),zbind (.ok (.pan c) x) K = .ok (.pan c) x) ∧
  (∀(K:AS→R),zbind .no K = .no) ∧
  (∀(i:Nat) (x:AS),mG i (.ok .normal x) = .ok .normal x)∧(∀(i:Nat) (x:AS),mG i (.ok .ret x) = .ok .ret x)∧(∀(i:Nat) (c:Ch) (x:AS),mG i (.ok (.pan c) x) = .ok (.pan c) x) ∧
  (∀(i j:Nat) (x:AS),mG i (.ok (.exit j) x)=if j=i then .ok .normal x else .ok (.exit j) x) ∧
  (∀(cx:Cx) (cl:CL) (x:AS),nL cx cl [] x = .ok .normal x) ∧
  (∀(cx:Cx) (cl:CL) (x:AS) (dst:Option Nat) (op:AOp) (r:List cR),nL cx cl (⟨dst,op,none⟩::r) x=zbind (zOp cx cl ⟨dst,op,none⟩ x) (nL cx cl r)):=by
 refine⟨fun _ _ _ _=>rfl,fun _ _ _ _ _=>rfl,fun _ _ _ _ _ _=>rfl,zC_cond,fun _ _ _ _ _ _=>rfl,fun _ _ _ _ _=>rfl,fun _ _ _ _ _=>rfl,fun _ _ _ _ _=>rfl,fun _ _ _ _=>rfl,
  fun _ _=>rfl,fun _ _=>rfl,fun _ _=>rfl,fun _ _ _=>rfl,fun _ _=>rfl,fun _ _ _=>rfl,fun _=>rfl,fun _ _=>rfl,fun _ _=>rfl,fun _ _ _=>rfl,fun i j x=>?_,fun _ _ _=>rfl,fun _ _ _ _ _ _=>rfl⟩
 show(Bool.rec (.ok (.exit j) x) (.ok .normal x) (Nat.beq j i):R)=_;by_cases h:j=i
 ·subst h;simp
 ·rw[aD h,iY h]
theorem rX:(∀cx cl dst g x a0,zOp cx cl ⟨dst,.mv a0,g⟩ x=zval dst (wP a0 cx.G x)) ∧
  (∀cx cl dst g x a0 a1 a2,zOp cx cl ⟨dst,.pick a0 a1 a2,g⟩ x=zval dst (nP a0 a1 a2 cx.G x)) ∧
  (∀cx cl dst g x a0 a1,zOp cx cl ⟨dst,.new a0 a1,g⟩ x=zval dst (sM a0 a1 cx.G x)) ∧
  (∀cx cl dst g x a0 a1,zOp cx cl ⟨dst,.ld a0 a1,g⟩ x=zval dst (wR a0 a1 cx.G x)) ∧
  (∀cx cl dst g x a0 a1 a2,zOp cx cl ⟨dst,.st a0 a1 a2,g⟩ x=zval dst (st_st a0 a1 a2 cx.G x)) ∧
  (∀cx cl dst g x a0 a1,zOp cx cl ⟨dst,.fa a0 a1,g⟩ x=zval dst (wT a0 a1 cx.G x)) ∧
  (∀cx cl dst g x a0 a1 a2 a3,zOp cx cl ⟨dst,.iaA a0 a1 a2 a3,g⟩ x=zval dst (qN a0 a1 a2 a3 cx.G x)) ∧
  (∀cx cl dst g x a0 a1 a2,zOp cx cl ⟨dst,.iaS a0 a1 a2,g⟩ x=zval dst (qM a0 a1 a2 cx.G x)) ∧
  (∀cx cl dst g x a0 a1 a2 a3 a4,zOp cx cl ⟨dst,.ixA a0 a1 a2 a3 a4,g⟩ x=zval dst (qL a0 a1 a2 a3 a4 cx.G x)) ∧
  (∀cx cl dst g x a0 a1,zOp cx cl ⟨dst,.ixS a0 a1,g⟩ x=zval dst (qK a0 a1 cx.G x)) ∧
  (∀cx cl dst g x a0 a1 a2,zOp cx cl ⟨dst,.fld a0 a1 a2,g⟩ x=zval dst (pC a0 a1 a2 cx.G x)) ∧
  (∀cx cl dst g x a0 a1,zOp cx cl ⟨dst,.ext a0 a1,g⟩ x=zval dst (qO a0 a1 cx.G x)) ∧
  (∀cx cl dst g x a0 a1 a2,zOp cx cl ⟨dst,.bin a0 a1 a2,g⟩ x=zval dst (qU a0 a1 a2 cx.G x)) ∧
  (∀cx cl dst g x a0 a1 a2 a3,zOp cx cl ⟨dst,.cmp a0 a1 a2 a3,g⟩ x=zval dst (qS a0 a1 a2 a3 cx.G x)) ∧
  (∀cx cl dst g x a0 a1,zOp cx cl ⟨dst,.un a0 a1,g⟩ x=zval dst (wO a0 a1 cx.G x)) ∧
  (∀cx cl dst g x a0 a1,zOp cx cl ⟨dst,.bld a0 a1,g⟩ x=zval dst (qT a0 a1 cx.G x)) ∧
  (∀cx cl dst g x a0 a1 a2 a3,zOp cx cl ⟨dst,.bsl a0 a1 a2 a3,g⟩ x=zval dst (sR a0 a1 a2 a3 cx.G x)) ∧
  (∀cx cl dst g x a0 a1 a2 a3 a4,zOp cx cl ⟨dst,.mks a0 a1 a2 a3 a4,g⟩ x=zval dst (sP a0 a1 a2 a3 a4 cx.G x)) ∧
  (∀cx cl dst g x a0 a1 a2,zOp cx cl ⟨dst,.slS a0 a1 a2,g⟩ x=zval dst (qE a0 a1 a2 cx.G x)) ∧
  (∀cx cl dst g x a0 a1 a2 a3 a4,zOp cx cl ⟨dst,.slV a0 a1 a2 a3 a4,g⟩ x=zval dst (qD a0 a1 a2 a3 a4 cx.G x)) ∧
  (∀cx cl dst g x a0 a1 a2 a3 a4 a5,zOp cx cl ⟨dst,.slA a0 a1 a2 a3 a4 a5,g⟩ x=zval dst (jU a0 a1 a2 a3 a4 a5 cx.G x)) ∧
  (∀cx cl dst g x a0 a1,zOp cx cl ⟨dst,.len a0 a1,g⟩ x=zval dst (qJ a0 a1 cx.G x)) ∧
  (∀cx cl dst g x a0,zOp cx cl ⟨dst,.cap a0,g⟩ x=zval dst (pF a0 cx.G x)) ∧
  (∀cx cl dst g x a0 a1 a2 a3 a4,zOp cx cl ⟨dst,.app a0 a1 a2 a3 a4,g⟩ x=zval dst (sS a0 a1 a2 a3 a4 cx.G x)) ∧
  (∀cx cl dst g x a0 a1 a2,zOp cx cl ⟨dst,.copy a0 a1 a2,g⟩ x=zval dst (jA a0 a1 a2 cx.G x)) ∧
  (∀cx cl dst g x a0 a1,zOp cx cl ⟨dst,.cvI a0 a1,g⟩ x=zval dst (qQ a0 a1 cx.G x)) ∧
  (∀cx cl dst g x a0,zOp cx cl ⟨dst,.cvN a0,g⟩ x=zval dst (qP a0 cx.G x)) ∧
  (∀cx cl dst g x a0,zOp cx cl ⟨dst,.cvB a0,g⟩ x=zval dst (qR a0 cx.G x)) ∧
  (∀cx cl dst g x a0,zOp cx cl ⟨dst,.cvS a0,g⟩ x=zval dst (pE a0 cx.G x)) ∧
  (∀cx cl dst g x a0 a1,zOp cx cl ⟨dst,.mkif a0 a1,g⟩ x=zval dst (nR a0 a1 cx.G x)) ∧
  (∀cx cl dst g x a0 a1 a2,zOp cx cl ⟨dst,.mkfn a0 a1 a2,g⟩ x=zval dst (nS a0 a1 a2 cx.G x)) ∧
  (∀cx cl dst g x a0,zOp cx cl ⟨dst,.nilc a0,g⟩ x=zval dst (nQ a0 cx.G x)) ∧
  (∀cx cl dst g x a0,zOp cx cl ⟨dst,.rng a0,g⟩ x=zval dst (sL a0 cx.G x)) ∧
  (∀cx cl dst g x a0,zOp cx cl ⟨dst,.next a0,g⟩ x=zval dst (oL a0 cx.G x)) ∧
  (∀cx cl dst g x a0 a1 a2,zOp cx cl ⟨dst,.mm a0 a1 a2,g⟩ x=zval dst (wQ a0 a1 a2 cx.G x)) ∧
  (∀cx cl dst g x ,zOp cx cl ⟨dst,.mkm ,g⟩ x=zval dst (qI  cx.G x)) ∧
  (∀cx cl dst g x a0 a1 a2 a3 a4,zOp cx cl ⟨dst,.mlk a0 a1 a2 a3 a4,g⟩ x=zval dst (pA a0 a1 a2 a3 a4 cx.G x)) ∧
  (∀cx cl dst g x a0 a1 a2 a3,zOp cx cl ⟨dst,.mup a0 a1 a2 a3,g⟩ x=zval dst (qH a0 a1 a2 a3 cx.G x)) ∧
  (∀cx cl dst g x a0 a1 a2 a3,zOp cx cl ⟨dst,.men a0 a1 a2 a3,g⟩ x=zval dst (sQ a0 a1 a2 a3 cx.G x)) ∧
  (∀cx cl dst g x a0 a1 a2,zOp cx cl ⟨dst,.mst a0 a1 a2,g⟩ x=zval dst (sO a0 a1 a2 cx.G x)) ∧
  (∀cx cl dst g x a0,zOp cx cl ⟨dst,.mln a0,g⟩ x=zval dst (oZ a0 cx.G x)) ∧
  (∀cx cl dst g x a0,zOp cx cl ⟨dst,.rgm a0,g⟩ x=zval dst (qF a0 cx.G x)) ∧
  (∀cx cl dst g x a0,zOp cx cl ⟨dst,.nxm a0,g⟩ x=zval dst (qG a0 cx.G x)) ∧
  (∀cx cl dst g x a0,zOp cx cl ⟨dst,.ent a0,g⟩ x=zval dst (pD a0 cx.G x)) ∧
  (∀cx cl dst g x a0 a1 a2 a3,zOp cx cl ⟨dst,.tas a0 a1 a2 a3,g⟩ x=zval dst (oY a0 a1 a2 a3 cx.G x)) ∧
  (∀cx cl dst g x a0 a1 a2,zOp cx cl ⟨dst,.tai a0 a1 a2,g⟩ x=zval dst (qC a0 a1 a2 cx.G x)) ∧
  (∀cx cl dst g x a0 a1,zOp cx cl ⟨dst,.xl a0 a1,g⟩ x=zval dst (sI a0 a1 cx.G x)) ∧
  (∀cx cl dst g x a0 a1,zOp cx cl ⟨dst,.xa a0 a1,g⟩ x=zval dst (wN a0 a1 cx.G x)):=by
 refine⟨?_,?_,?_,?_,?_,?_,?_,?_,?_,?_,?_,?_,?_,?_,?_,?_,?_,?_,?_,?_,?_,?_,?_,?_,?_,?_,?_,?_,?_,?_,?_,?_,?_,?_,?_,?_,?_,?_,?_,?_,?_,?_,?_,?_,?_,?_,?_,?_⟩<;>intros<;>rfl
def kE(sz:Nat)(d i:D):Option D:=match d with
 | .sl _ len cs=>(kQ len i).map fun k=>.iptr cs (k*sz)
 | .ms nm off z len _=>(kQ len i).bind fun k=>bif Nat.beq z sz then some (.ptr nm (off+k*sz)) else none
 | .gs nm off z len=>(kQ len i).bind fun k=>bif Nat.beq z sz then some (.ptr nm (off+k*sz)) else none
 | _=>none
def vB(sz:Nat)(d:D)(l h m:Option D):Option D:=match d with
  | .nils=>do
   let m ←fT 0 0 m
   let h ←fT m 0 h
   let _ ←fT h 0 l
   some .nils
  | .sl ex len cs=>do
   let m' ←fT len len m
   let h' ←fT m' len h
   let l' ←fT h' 0 l
   bif Nat.ble (h'*sz) cs.length then
    some (.sl ((m.isSome&&Nat.beq m' h')||(m.isNone&&ex&&Nat.beq h' len)) (h'-l') ((cs.drop (l'*sz)).take ((h'-l')*sz)))
   else none
  | .ms nm off z len c=>do
   let m ←fT c c m
   let h ←fT m len h
   let l ←fT h 0 l
   bif Nat.beq z sz then some (.ms nm (bif Nat.beq m l then off else off+l*sz) z (h-l) (m-l)) else none
  | .gs nm off z len=>match m with
   | none=>do
    let h ←fT len len h
    let l ←fT h 0 l
    bif Nat.beq z sz then
     (bif Nat.beq l 0 then some (.gs nm off z h) else bif Nat.blt l h then some (.gs nm (off+l*sz) z (h-l)) else some (.sl false 0 []))
    else none
   | some m=>do
    let m ←uO len m
    let h ←fT m len h
    let l ←fT h 0 l
    bif Nat.beq z sz&&Nat.blt 0 len then some (.ms nm (bif Nat.beq m l then off else off+l*sz) z (h-l) (m-l)) else none
  | _=>none
theorem st_iaS_eq(sz:Nat)(a i:Arg)(G:List (Nat×List D))(x:AS):qM sz a i G x=(kE sz (a.ev G x.t) (i.ev G x.t)).map fun d=>(d,x):=by
 unfold qM kE;cases a.ev G x.t<;>dsimp only<;>try rfl
 ·rename_i ex len cs;cases kQ len (i.ev G x.t)<;>rfl
 ·rename_i nm off z len c;cases kQ len (i.ev G x.t)<;>try rfl
  cases hb:Nat.beq z sz<;>rfl
 ·rename_i nm off z len;cases kQ len (i.ev G x.t)<;>try rfl
  cases hb:Nat.beq z sz<;>rfl
theorem st_slV_eq(sz:Nat)(a:Arg)(l h m:Option Arg)(G:List (Nat×List D))(x:AS):qD sz a l h m G x=(vB sz (a.ev G x.t) (l.map (·.ev G x.t)) (h.map (·.ev G x.t)) (m.map (·.ev G x.t))).map fun d=>(d,x):=by
 unfold qD vB;cases a.ev G x.t<;>dsimp only<;>try rfl
 ·cases fT 0 0 (m.map (·.ev G x.t))<;>try rfl
  rename_i m';simp only[aB,aO];cases fT m' 0 (h.map (·.ev G x.t))<;>try rfl
  rename_i h';simp only[aO];cases fT h' 0 (l.map (·.ev G x.t))<;>rfl
 ·rename_i ex len cs;cases fT len len (m.map (·.ev G x.t))<;>try rfl
  rename_i m';simp only[aB,aO];cases fT m' len (h.map (·.ev G x.t))<;>try rfl
  rename_i h';simp only[aO];cases fT h' 0 (l.map (·.ev G x.t))<;>try rfl
  rename_i l';simp only[aO,Option.isSome_map,Option.isNone_map];cases hb:Nat.ble (h'*sz) cs.length<;>rfl
 ·rename_i nm off z len c;cases fT c c (m.map (·.ev G x.t))<;>try rfl
  rename_i m';simp only[aB,aO];cases fT m' len (h.map (·.ev G x.t))<;>try rfl
  rename_i h';simp only[aO];cases fT h' 0 (l.map (·.ev G x.t))<;>try rfl
  simp only[aO];cases hb:Nat.beq z sz<;>rfl
 ·rename_i nm off z len;cases m with
  | none=>
   simp only[Option.map_none];cases fT len len (h.map (·.ev G x.t))<;>try rfl
   rename_i h';simp only[aB,aO];cases fT h' 0 (l.map (·.ev G x.t))<;>try rfl
   rename_i l';simp only[aO];cases hb:Nat.beq z sz<;>cases hc:Nat.beq l' 0<;>cases hd:Nat.blt l' h'<;>rfl
  | some m=>
   simp only[bJ];cases uO len (m.ev G x.t)<;>try rfl
   rename_i m';simp only[aB,aO];cases fT m' len (h.map (·.ev G x.t))<;>try rfl
   rename_i h';simp only[aO];cases fT h' 0 (l.map (·.ev G x.t))<;>try rfl
   rename_i l';simp only[aO];cases hb:(Nat.beq z sz&&Nat.blt 0 len)<;>rfl
theorem rW:type_of% @wP.eq_1∧type_of% @nP.eq_1∧type_of% @sM.eq_1∧type_of% @wR.eq_1∧type_of% @st_st.eq_1∧type_of% @wT.eq_1∧type_of% @qN.eq_1∧type_of% @st_iaS_eq∧type_of% @qL.eq_1∧type_of% @qK.eq_1∧type_of% @pC.eq_1∧type_of% @qO.eq_1∧type_of% @qU.eq_1∧type_of% @qS.eq_1∧type_of% @wO.eq_1∧type_of% @qT.eq_1∧type_of% @sR.eq_1∧type_of% @sP.eq_1∧type_of% @qE.eq_1∧type_of% @st_slV_eq∧type_of% @jU.eq_1∧type_of% @qJ.eq_1∧type_of% @pF.eq_1∧type_of% @sS.eq_1∧type_of% @jA.eq_1∧type_of% @qQ.eq_1∧type_of% @qP.eq_1∧type_of% @qR.eq_1∧type_of% @pE.eq_1∧type_of% @nR.eq_1∧type_of% @nS.eq_1∧type_of% @nQ.eq_1∧type_of% @sL.eq_1∧type_of% @oL.eq_1∧type_of% @wQ.eq_1∧type_of% @qI.eq_1∧type_of% @pA.eq_1∧type_of% @qH.eq_1∧type_of% @sQ.eq_1∧type_of% @sO.eq_1∧type_of% @oZ.eq_1∧type_of% @qF.eq_1∧type_of% @qG.eq_1∧type_of% @pD.eq_1∧type_of% @oY.eq_1∧type_of% @qC.eq_1∧type_of% @sI.eq_1∧type_of% @wN.eq_1:=
 ⟨@wP.eq_1,@nP.eq_1,@sM.eq_1,@wR.eq_1,@st_st.eq_1,@wT.eq_1,@qN.eq_1,@st_iaS_eq,@qL.eq_1,@qK.eq_1,@pC.eq_1,@qO.eq_1,@qU.eq_1,@qS.eq_1,@wO.eq_1,@qT.eq_1,@sR.eq_1,@sP.eq_1,@qE.eq_1,@st_slV_eq,@jU.eq_1,@qJ.eq_1,@pF.eq_1,@sS.eq_1,@jA.eq_1,@qQ.eq_1,@qP.eq_1,@qR.eq_1,@pE.eq_1,@nR.eq_1,@nS.eq_1,@nQ.eq_1,@sL.eq_1,@oL.eq_1,@wQ.eq_1,@qI.eq_1,@pA.eq_1,@qH.eq_1,@sQ.eq_1,@sO.eq_1,@oZ.eq_1,@qF.eq_1,@qG.eq_1,@pD.eq_1,@oY.eq_1,@qC.eq_1,@sI.eq_1,@wN.eq_1⟩
theorem aE:(∀(dst:Option Nat) (d:D) (y:AS),zval dst (some (d,y)) = .ok .normal ⟨iI dst y.t d,y.s,y.c,y.d,y.r⟩)∧(∀(dst:Option Nat),zval dst none = .no) ∧
  (∀(n:Nat) (t:Tm) (d:D),iI (some n) t d=tput t n d)∧(∀(t:Tm) (d:D),iI none t d=t) ∧
  (∀(n:Nat) (G:List (Nat×List D)) (t:Tm),(Arg.t n).ev G t=tget t n)∧(∀(d:D) (G:List (Nat×List D)) (t:Tm),(Arg.c d).ev G t=d)∧(∀(n:Nat) (G:List (Nat×List D)) (t:Tm),(Arg.f n).ev G t = .fn (.func n) [] []) ∧
  (∀(t:Tm) (n m:Nat) (d:D),tget (tput t n d) m=if m=n then d else tget t m) ∧
  (∀(s:St) (n m:Nat) (b:Blk),sget (sset s n b) m=if m=n then some b else sget s m)∧(∀(s:St) (n m:Nat) (b:Blk),sget (sadd s n b) m=if m=n then some b else sget s m) ∧
  (∀(G:List (Nat×List D)) (t:Tm),evs [] G t=[])∧(∀(G:List (Nat×List D)) (t:Tm) (a:Arg) (l:List Arg),evs (a::l) G t=a.ev G t::evs l G t) ∧
  (∀(x:AS) (b:Blk),x.add b=⟨x.t,sadd x.s x.c b,x.c+1,x.d,x.r⟩) ∧
  (∀(cx:Cx) (cl:CL) (dst:Option Nat) (g:Option (Nat×Bool)) (x:AS) (f:Nat) (l:List Arg),zOp cx cl ⟨dst,.call f l,g⟩ x=back dst x (cl (.fn f) (evs l cx.G x.t) x.s x.c)) ∧
  (∀(dst:Option Nat) (x:AS) (d:D) (s:St) (c:Nat),back dst x (.ok (.ret d) s c) = .ok .normal ⟨iI dst x.t d,s,c,x.d,x.r⟩) ∧
  (∀(dst:Option Nat) (x:AS) (ch:Ch) (s:St) (c:Nat),back dst x (.ok (.pan ch) s c) = .ok (.pan ch) ⟨x.t,s,c,x.d,x.r⟩):=by
 refine⟨fun _ _ _=>rfl,fun _=>rfl,fun _ _ _=>rfl,fun _ _=>rfl,fun _ _ _=>rfl,fun _ _ _=>rfl,fun _ _ _=>rfl,fun t n m d=>kI t n d m,fun s n m b=>aN s n m b,fun s n m b=>aW s n m b,fun _ _=>rfl,fun _ _ _ _=>rfl,fun _ _=>rfl,fun _ _ _ _ _ _ _=>rfl,fun _ _ _ _ _=>rfl,fun _ _ _ _ _=>rfl⟩
theorem rJ:(∀(k:IntKind) (x y:Int),jY .add (.int k x) (.int k y)=some (.int k (dJ k (x+y))))∧(∀(k:IntKind) (x y:Int),jY .sub (.int k x) (.int k y)=some (.int k (dJ k (x-y)))) ∧
  (∀(k:IntKind) (x y:Int),jY .mul (.int k x) (.int k y)=some (.int k (dJ k (x*y)))) ∧
  (∀(k:IntKind) (x y:Int),jY .eql (.int k x) (.int k y)=some (.bool (decide (x=y))))∧(∀(k:IntKind) (x y:Int),jY .neq (.int k x) (.int k y)=some (.bool (decide (x≠y)))) ∧
  (∀(k:IntKind) (x y:Int),jY .lss (.int k x) (.int k y)=some (.bool (decide (x<y))))∧(∀(k:IntKind) (x y:Int),jY .leq (.int k x) (.int k y)=some (.bool (decide (x≤y)))) ∧
  (∀(k:IntKind) (x y:Int),jY .gtr (.int k x) (.int k y)=some (.bool (decide (y<x))))∧(∀(k:IntKind) (x y:Int),jY .geq (.int k x) (.int k y)=some (.bool (decide (y≤x)))):=by
 refine⟨?_,?_,?_,?_,?_,?_,?_,?_,?_⟩<;>intro k x y<;>simp[jY,intD]
 all_goals (cases k<;>rfl)
theorem ex_end:(∀(df:Nat→List D→dS→St→Nat→DR) (A:AF) (t:Tm) (s:St) (c:Nat) (r:Option Nat),zbody df A (.ok .ret ⟨t,s,c,[],r⟩)=(match results A ⟨t,s,c,[],r⟩ with|some d=>.ok (.ret d) s c|none=>.no)) ∧
  (∀(df:Nat→List D→dS→St→Nat→DR) (A:AF) (t:Tm) (s:St) (c:Nat) (r:Option Nat),zbody df A (.ok .normal ⟨t,s,c,[],r⟩)=(match results A ⟨t,s,c,[],r⟩ with|some d=>.ok (.ret d) s c|none=>.no)) ∧
  (∀(np:Nat) (b:AC) (x:AS),results ⟨np,b,[]⟩ x=some (.tup [])) ∧
  (∀(np:Nat) (b:AC) (x:AS) (v:RV),results ⟨np,b,[v]⟩ x=v.get x) ∧
  (∀(np:Nat) (b:AC) (x:AS) (v w:RV),results ⟨np,b,[v,w]⟩ x=(v.get x).bind fun a=>(w.get x).map fun b=>.tup [a,b]) ∧
  (∀(np:Nat) (b:AC) (x:AS) (v w u:RV),results ⟨np,b,[v,w,u]⟩ x=(v.get x).bind fun a=>(w.get x).bind fun b=>(u.get x).map fun c=>.tup [a,b,c]) ∧
  (∀(np:Nat) (b:AC) (x:AS) (v w u p:RV),results ⟨np,b,[v,w,u,p]⟩ x=(v.get x).bind fun a=>(w.get x).bind fun b=>(u.get x).bind fun c=>(p.get x).map fun d=>.tup [a,b,c,d]) ∧
  (∀(x:AS) (n:Nat),(RV.tmp n).get x=some (tget x.t n)) ∧
  (∀(x:AS) (n:Nat) (sz:Option Nat),(RV.cell n sz).get x=(seen x.s (tget x.t n)).bind fun p=>dE p.1 p.2 sz):=by
 refine⟨fun _ _ _ _ _ _=>rfl,fun _ _ _ _ _ _=>rfl,fun _ _ _=>rfl,fun np b x v=>?_,fun np b x v w=>?_,fun np b x v w u=>?_,fun np b x v w u p=>?_,fun _ _=>rfl,fun _ _ _=>rfl⟩ <;>
  simp only[results,List.mapM_cons,List.mapM_nil,aB,Option.pure_def]
 ·cases v.get x<;>rfl
 ·cases v.get x<;>try rfl
  cases w.get x<;>rfl
 ·cases v.get x<;>try rfl
  cases w.get x<;>try rfl
  cases u.get x<;>rfl
 ·cases v.get x<;>try rfl
  cases w.get x<;>try rfl
  cases u.get x<;>try rfl
  cases p.get x<;>rfl
/-! Guards; regions in an open order. -/
def zgd(v:D)(w:Bool)(p q:R):R:=match v with
 | .bool b=>bif b==w then p else q
 | .tup []=>q
 | _=>.no
@[congr] theorem zgd_congr {v v':D} (h:v=v') (w:Bool) (p q:R):zgd v w p q=zgd v' w p q:=by rw[h]
theorem zOps_g(cx:Cx)(cl:CL)(dst:Option Nat)(op:AOp)(g:Nat)(w:Bool)(r:List cR)(x:AS):
  nL cx cl (⟨dst,op,some (g,w)⟩::r) x=zgd (tget x.t g) w (zbind (zOp cx cl ⟨dst,op,some (g,w)⟩ x) (nL cx cl r)) (nL cx cl r ⟨iI dst x.t (.tup []),x.s,x.c,x.d,x.r⟩):=by
 show(Option.rec .no (tW ⟨dst,op,some (g,w)⟩ (fun cx cl x=>nL cx cl r x) cx cl x) (wanted ⟨dst,op,some (g,w)⟩ x):R)=_
 unfold wanted zgd;simp only;cases tget x.t g<;>try rfl
 ·rename_i b;cases b<;>cases w<;>rfl
 ·rename_i cs;cases cs<;>rfl
def zlk(dst:Option Nat)(x:AS)(r:Option (D×AS))(chk:D→Bool)(K:AS→R):R:=match r with
 | some p=>bif chk p.1 then K ⟨iI dst x.t p.1,x.s,x.c,x.d,x.r⟩else .no
 | none=>.no
@[congr] theorem zlk_congr (dst:Option Nat) (x:AS) {r r':Option (D×AS)} (h:r=r') (chk:D→Bool) (K:AS→R):zlk dst x r chk K=zlk dst x r' chk K:=by rw[h]
def zall(dst:Option Nat)(x:AS)(nm:Nat)(r:Option ((Nat→D)×Blk))(old:List St)(K:AS→R):R:=match r with
 | some p=>bif old.all (fun s=>(sget s nm).isNone) then K ⟨iI dst x.t (p.1 nm),sadd x.s nm p.2,x.c,x.d,x.r⟩else .no
 | none=>.no
@[congr] theorem zall_congr (dst:Option Nat) (x:AS) (nm:Nat) {r r':Option ((Nat→D)×Blk)} (h:r=r') (old:List St) (K:AS→R):zall dst x nm r old K=zall dst x nm r' old K:=by rw[h]
def zac(r:R)(last:Bool)(K:AS→R):R:=match r with
 | .ok .normal y=>K y
 | .ok (.pan ch) y=>bif last then .ok (.pan ch) y else .no
 | _=>.no
@[congr] theorem zac_congr {r r':R} (h:r=r') (last:Bool) (K:AS→R):zac r last K=zac r' last K:=by rw[h]
theorem iS(cx:Cx)(cl:CL)(c0:Nat)(i k:Nat)(dst:Option Nat)(op:AOp)(r:List (Nat×Nat×cR))(hist:List St)(x:AS):
  sA cx cl c0 ((i,k,⟨dst,op,none⟩)::r) hist x=(match op.kd with
   | 0=>zlk dst x (step cx.G op x) (fun d=>(hist.take k).all (cC cx.G op x d)) (sA cx cl c0 r hist)
   | 1=>zall dst x (c0+i) (cT cx.G op x.t) (x.s::hist.take k) (sA cx cl c0 r hist)
   | 2=>zac (zOp cx cl ⟨dst,op,none⟩ x) (r.all fun f=>Nat.beq f.2.1 0) (sA cx cl c0 r (x.s::hist))
   | _=>.no):=by
 show lH cx cl c0 (i,k,⟨dst,op,none⟩) r (fun h x=>sA cx cl c0 r h x) hist x=_
 unfold lH;have hw:wanted (i,k,(⟨dst,op,none⟩:cR)).2.2 x=some true:=rfl;rw[hw];show(match op.kd with|0=>_|1=>_|2=>_|_=>_:R)=_
 generalize op.kd=q
 match q with
 | 0=>cases hs:step cx.G op x<;>simp only[zlk,hs]<;>rfl
 | 1=>cases hs:cT cx.G op x.t<;>simp only[zall,hs]<;>rfl
 | 2=>
  simp only[zac];cases hs:zOp cx cl ⟨dst,op,none⟩ x with
  | no=>rfl
  | ok o y=>cases o<;>rfl
 | n+3=>rfl
theorem qB(cx:Cx)(cl:CL)(c0:Nat)(i k:Nat)(dst:Option Nat)(op:AOp)(g:Nat)(w:Bool)(r:List (Nat×Nat×cR))(hist:List St)(x:AS):
  sA cx cl c0 ((i,k,⟨dst,op,some (g,w)⟩)::r) hist x=zgd (tget x.t g) w (sA cx cl c0 ((i,k,⟨dst,op,none⟩)::r) hist x)
   (sA cx cl c0 r (bif Nat.beq op.kd 2 then x.s::hist else hist) ⟨iI dst x.t (.tup []),x.s,x.c,x.d,x.r⟩):=by
 have h1:∀b:Bool,sA cx cl c0 ((i,k,⟨dst,op,none⟩)::r) hist x=lH cx cl c0 (i,k,⟨dst,op,none⟩) r (fun h x=>sA cx cl c0 r h x) hist x:=fun _=>rfl
 show lH cx cl c0 (i,k,⟨dst,op,some (g,w)⟩) r (fun h x=>sA cx cl c0 r h x) hist x=_
 rw[h1 true];unfold lH zgd;simp only[wanted];cases tget x.t g<;>try rfl
 ·rename_i b;cases b<;>cases w<;>rfl
 ·rename_i cs;cases cs<;>rfl
theorem ex_any:(∀(cx:Cx) (cl:CL) (k:Nat) (x:AS) (ord:List (Nat×Nat)) (ops:List cR),zC (.reg (some ord) ops) cx cl k x=sA cx cl x.c (eG ord ops) [] ⟨cX (eG ord ops) x.t,x.s,x.c+ops.length,x.d,x.r⟩) ∧
  (∀(cx:Cx) (cl:CL) (c0:Nat) (hist:List St) (x:AS),sA cx cl c0 [] hist x = .ok .normal x) ∧
  (∀(dst:Option Nat) (x y:AS) (d:D) (chk:D→Bool) (K:AS→R),zlk dst x (some (d,y)) chk K=bif chk d then K ⟨iI dst x.t d,x.s,x.c,x.d,x.r⟩else .no) ∧
  (∀(dst:Option Nat) (x:AS) (nm:Nat) (p:(Nat→D)×Blk) (old:List St) (K:AS→R),zall dst x nm (some p) old K=bif old.all (fun s=>(sget s nm).isNone) then K ⟨iI dst x.t (p.1 nm),sadd x.s nm p.2,x.c,x.d,x.r⟩else .no) ∧
  (∀(y:AS) (l:Bool) (K:AS→R),zac (.ok .normal y) l K=K y)∧(∀(y:AS) (ch:Ch) (l:Bool) (K:AS→R),zac (.ok (.pan ch) y) l K=bif l then .ok (.pan ch) y else .no) ∧
  (∀(b:Bool) (p q:R),zgd (.bool b) true p q=zcond (.bool b) p q)∧(∀(b:Bool) (p q:R),zgd (.bool b) false p q=zcond (.bool b) q p)∧(∀(w:Bool) (p q:R),zgd (.tup []) w p q=q):=by
 refine⟨fun _ _ _ _ _ _=>rfl,fun _ _ _ _ _=>rfl,fun _ _ _ _ _ _=>rfl,fun _ _ _ _ _ _=>rfl,fun _ _ _=>rfl,fun _ _ _ _=>rfl,fun b _ _=>by cases b<;>rfl,fun b _ _=>by cases b<;>rfl,fun _ _ _=>rfl⟩
end
end Zv
namespace Zv
open Go
mutual
def D.dp:D→Bool
 | .agg cs=>D.dps cs
 | .tup cs=>D.dps cs
 | .sl _ _ cs=>D.dps cs
 | .iptr cs _=>D.dps cs
 | .ms ..=>false
 | .gs ..=>false
 | .ptr ..=>false
 | .it ..=>false
 | .iface _ d=>D.dp d
 | .fn _ a b=>D.dps a&&D.dps b
 | _=>true
def D.dps:List D→Bool
 | []=>true
 | d::r=>D.dp d&&D.dps r
end
inductive TY where
 | bool
 | int (k:IntKind)
 | str
 | sl (l:List TY)
def tyFs(P:Program)(g:TypeId→Option (List TY)):List Field→Nat→Option (List TY)
 | [],_=>some []
 | f::r,off=>if f.offset=off then
   (g f.type).bind fun l=>if l.length=P.cellsOf f.type then(tyFs P g r (off+l.length)).map (l ++ ·) else none
  else none
def tyOf(P:Program):Nat→TypeId→Option (List TY)
 | 0,_=>none
 | n+1,t=>match P.underlying t with
  | some .bool=>some [.bool]
  | some (.int k)=>some [.int k]
  | some .string=>some [.str]
  | some (.slice e)=>(tyOf P n e).bind fun l=>if l.length=P.cellsOf e∧0<l.length then some [.sl l]else none
  | some (.struct fs)=>(tyFs P (tyOf P n) fs.toList 0).bind fun l=>if l.length=P.cellsOf t then some l else none
  | some (.array m e)=>(tyOf P n e).bind fun l=>if l.length=P.cellsOf e∧m*l.length=P.cellsOf t then some (List.replicate m l).flatten else none
  | _=>none
mutual
def TY.ok:TY→D→Prop
 | .bool,d=>∃b,d = .bool b
 | .int k,d=>∃n,d = .int k n∧k.min≤n∧n≤k.max
 | .str,d=>∃s,d = .str s∧s.length≤maxLen
 | .sl l,d=>d = .nils∨∃rows:List (List D),d = .sl false rows.length rows.flatten∧rows.length≤maxLen∧∀r∈rows,TY.oks l r
def TY.oks:List TY→List D→Prop
 | [],ds=>ds=[]
 | t::ts,ds=>∃d r,ds=d::r∧TY.ok t d∧TY.oks ts r
end
theorem TY.oks_length:∀{l:List TY} {ds:List D},TY.oks l ds→ds.length=l.length
 | [],ds,h=>by simp only[TY.oks]at h;simp[h]
 | t::ts,ds,h=>by
  simp only[TY.oks]at h;obtain⟨d,r,rfl,_,h⟩:=h;simp[TY.oks_length h]
theorem TY.oks_append:∀{l l':List TY} {ds ds':List D},TY.oks l ds→TY.oks l' ds'→TY.oks (l++l') (ds++ds')
 | [],l',ds,ds',h,h'=>by simp only[TY.oks]at h;simpa[h]using h'
 | t::ts,l',ds,ds',h,h'=>by
  simp only[TY.oks]at h;obtain⟨d,r,rfl,hd,h⟩:=h;simp only[cD,TY.oks];exact⟨d,_,rfl,hd,TY.oks_append h h'⟩
def NoM:Nat→Prop:=fun _=>False
section
variable {H:Type} {enc:TypeId×Value→H} {P:Program} {w:World} {base:Nat} {spare:Nat→Bool} {held:Bool}
theorem aX.nth{M:Nat→Prop}{μ:Mu}:∀{ds:List D} {vs:List Value} (i:Nat) (d:D),aX M w μ ds vs→ds[i]?=some d→∃v,vs[i]?=some v∧aP M w μ d v
 | [],vs,i,d,h,hd=>by simp at hd
 | e::ds,vs,i,d,h,hd=>by
  simp only[aX]at h;obtain⟨v,r,rfl,hv,h⟩:=h;cases i with
  | zero=>simp at hd;subst hd;exact⟨v,rfl,hv⟩
  | succ i=>simpa using aX.nth i d h (by simpa using hd)
theorem vK:∀{a b:List D},D.dps a=true→D.dps b=true→D.dps (a++b)=true
 | [],b,_,h=>h
 | d::a,b,h,h'=>by
  simp only[D.dps,cD,bE]at h ⊢;exact⟨h.1,vK h.2 h'⟩
mutual
def dOf{H:Type}:DataW H→List D
 | .lit (.bool b)=>[.bool b]
 | .lit (.int k n)=>[.int k n]
 | .lit (.string s)=>[.str s]
 | .slice xs _=>[.sl false xs.length (dOfs xs)]
 | .agg xs=>dOfs xs
 | _=>[.nils]
def dOfs{H:Type}:List (DataW H)→List D
 | []=>[]
 | x::r=>dOf x++dOfs r
end
def oT(w:World)(l:List TY)(cs:List Value)(ds:List D):Prop:=aX NoM w mu0 ds cs∧D.dps ds=true∧TY.oks l ds
theorem oT.append{l l':List TY}{cs cs':List Value}{ds ds':List D}(h:oT w l cs ds)(h':oT w l' cs' ds'):oT w (l++l') (cs++cs') (ds++ds'):=
 ⟨aX.append h.1 h'.1,vK h.2.1 h'.2.1,TY.oks_append h.2.2 h'.2.2⟩
theorem oT.nil:oT w [] [] []:=⟨by simp[aX],rfl,by simp[TY.oks]⟩
theorem reads_fs{g:TypeId→Option (List TY)}{cs:List Value}:∀(fs:List Field) (xs:List (DataW H×List MemPlace)) (off:Nat) (L:List TY),tyFs P g fs off=some L→xs.length=fs.length →
  (∀(i:Nat) f y,fs[i]?=some f→xs[i]?=some y→∀l,g f.type=some l→oT w l ((cs.drop f.offset).take (P.cellsOf f.type)) (dOf y.1))→oT w L ((cs.drop off).take L.length) (dOfs (xs.map (·.1)))
 | [],xs,off,L,h,hl,hh=>by
  simp only[tyFs,aC]at h;subst h;obtain rfl:xs=[]:=dY hl;simpa[dOfs]using oT.nil
 | f::r,[],off,L,h,hl,hh=>by simp at hl
 | f::r,x::xs,off,L,h,hlx,hh=>by
  simp only[tyFs]at h;split at h
  ·rename_i ho;simp only[aA]at h;obtain⟨l,hl,h⟩:=h;split at h
   ·rename_i hc;simp only[aG]at h;obtain⟨L',h',rfl⟩:=h;have h1:=hh 0 f x rfl rfl l hl;have h2:=reads_fs r xs _ L' h' (by simpa using hlx) (fun i f y hf hy=>hh (i+1) f y (by simpa using hf) (by simpa using hy))
    rw[←hc,ho]at h1;have:=h1.append h2;rw[dD,List.take_add,List.drop_drop];simpa[dOfs]using this
   ·cases h
  ·cases h
theorem reads_rep{l:List TY}{cs:List Value}:∀(m off:Nat) (xs:List (DataW H×List MemPlace)),xs.length=m→(∀(i:Nat) y,xs[i]?=some y→oT w l ((cs.drop (off+i*l.length)).take l.length) (dOf y.1)) →
  oT w (List.replicate m l).flatten ((cs.drop off).take (m*l.length)) (dOfs (xs.map (·.1)))
 | 0,off,xs,hl,hh=>by
  obtain rfl:xs=[]:=dY hl;simpa[dOfs]using oT.nil
 | m+1,off,[],hl,hh=>by simp at hl
 | m+1,off,x::xs,hl,hh=>by
  have h1:=hh 0 x rfl;have h2:=reads_rep (l:=l) (cs:=cs) m (off+l.length) xs (by simpa using hl) (fun i y hi=>by
   have:=hh (i+1) y (by simpa using hi)
   rwa [Nat.add_mul,Nat.one_mul,Nat.add_comm (i*l.length),←Nat.add_assoc]at this)
  rw[dV,Nat.add_zero]at h1;have:=h1.append h2;rw[List.replicate_succ,eI,Nat.add_mul,Nat.one_mul,Nat.add_comm (m*l.length),List.take_add,List.drop_drop];simpa[dOfs]using this
theorem dOfs_rows:∀(xs:List (DataW H×List MemPlace)),dOfs (xs.map (·.1))=(xs.map fun y=>dOf y.1).flatten
 | []=>rfl
 | x::xs=>by simp[dOfs,dOfs_rows xs]
theorem iD.append{M:Nat→Prop}{b:Nat}:∀{ds ds':List D} {o:Nat},iD M w b o ds→iD M w b (o+ds.length) ds'→iD M w b o (ds++ds')
 | [],ds',o,h,h'=>by simpa using h'
 | d::ds,ds',o,h,h'=>by
  simp only[iD,cD]at h ⊢;refine⟨h.1,iD.append h.2 ?_⟩
  rwa [aU,Nat.add_comm ds.length,←Nat.add_assoc]at h'
theorem iD.rows{M:Nat→Prop}{b c:Nat}:∀{rows:List (List D)} {o:Nat},(∀(i:Nat) (r:List D),rows[i]?=some r→r.length=c∧iD M w b (o+i*c) r)→iD M w b o rows.flatten
 | [],o,h=>by simp[iD]
 | r::rows,o,h=>by
  rw[eI];obtain⟨h1,h2⟩:=h 0 r rfl;rw[dV,Nat.add_zero]at h2;refine iD.append h2 (iD.rows (c:=c) fun i r' hr=>?_)
  obtain⟨h3,h4⟩:=h (i+1) r' (by simpa using hr)
  rw[h1];rw[Nat.add_mul,Nat.one_mul,Nat.add_comm (i*c),←Nat.add_assoc]at h4;exact⟨h3,h4⟩
theorem dps_flatten:∀{rows:List (List D)},(∀r∈rows,D.dps r=true)→D.dps rows.flatten=true
 | [],_=>rfl
 | r::rows,h=>by
  rw[eI];exact vK (h r (by simp)) (dps_flatten fun r hr=>h r (by simp[hr]))
theorem cell_spot{a:Addr}{v:Value}(h:w.cell? a=some v):a.spot=none∧a.block<w.heap.size:=by
 unfold World.cell? at h;split at h
 ·rename_i c _ _ he;by_cases hs:a.spot.isSome=true
  ·simp[hs]at h
  ·exact⟨by simpa using hs,(Array.getElem?_eq_some_iff.1 he).1⟩
 ·cases h
theorem cells_crel{b o n:Nat}{vs:List Value}{ds:List D}(h:w.cells? base ⟨b,o,none⟩ n=some vs)(hv:aX NoM w mu0 ds vs):iD NoM w b o ds:=by
 unfold World.cells? at h;split at h
 ·refine iD.mk fun i d hd=>?_
  obtain⟨v,h1,h2⟩:=aX.nth i d hv hd;have hn:i<n:=by
   have:=mapM_some_length h;have:=(cH.1 h1).1
   simp_all
  have h3:=mapM_some_get h i i (by simp[hn])
  rw[h1,Addr.add_lit]at h3;exact⟨v,h3,h2⟩
 ·cases h
theorem cells_spot{a:Addr}{n:Nat}{vs:List Value}(h:w.cells? base a n=some vs)(hn:0<n):a.spot=none∧a.block<w.heap.size:=by
 unfold World.cells? at h;split at h
 ·have h3:=mapM_some_get h 0 0 (by simp[hn])
  obtain⟨v,hv⟩:∃v,vs[0]?=some v:=by
   have:=mapM_some_length h;exact⟨vs[0]'(by simp_all),by simp⟩
  rw[hv]at h3;exact cell_spot h3
 ·cases h
theorem wY:∀(m fuel:Nat) (t:TypeId) (l:List TY) (cs:List Value) (x:DataW H×List MemPlace),DataW.trod enc P w base spare held fuel t cs=some x→tyOf P m t=some l→oT w l cs (dOf x.1)
 | 0,fuel,t,l,cs,x,h,ht=>by simp[tyOf]at ht
 | m+1,fuel,t,l,cs,x,h,ht=>by
  unfold tyOf at ht;split at ht
  ·rename_i hu;cases ht;obtain⟨b,rfl,rfl⟩:=DataW.trod_bool hu h;exact⟨by simp[dOf,aX,aP],rfl,by simp[dOf,TY.oks,TY.ok]⟩
  ·rename_i k hu;cases ht;obtain⟨n,rfl,rfl,hw⟩:=DataW.trod_int hu h;simp only[Lit.wf,bE,cI]at hw;exact⟨by simp[dOf,aX,aP],rfl,by simp[dOf,TY.oks,TY.ok,hw]⟩
  ·rename_i hu;cases ht;obtain⟨s,rfl,rfl,hs⟩:=DataW.trod_string hu h;exact⟨by simp[dOf,aX,aP],rfl,by simpa[dOf,TY.oks,TY.ok]using hs⟩
  ·rename_i e hu;simp only[aA]at ht;obtain⟨l',hl',ht⟩:=ht;split at ht
   ·rename_i hc;cases ht;rcases DataW.trod_slice hu h with⟨rfl,rfl⟩|⟨a,len,cap,elems,rest,n,rfl,rfl,rfl,hb,hlc,hcm,hel,hi,_⟩
    ·exact⟨by simp[dOf,aX,aP],rfl,by simp[dOf,TY.oks,TY.ok]⟩
    ·rcases Nat.eq_zero_or_pos len with e0|e0
     ·subst e0;obtain rfl:elems=[]:=dY hel;refine⟨?_,rfl,?_⟩
      ·simp only[dOf,eX,dOfs,aX,aP];exact⟨_,_,rfl,⟨some a,cap,rfl,hlc,by simp,.inl rfl⟩,rfl⟩
      ·simp only[dOf,TY.oks,TY.ok];exact⟨_,_,rfl,.inr ⟨[],rfl,by simp,by simp⟩,rfl⟩
     ·have hsp:a.spot=none∧a.block<w.heap.size:=by
       have h1:=hi 0 e0;obtain⟨y,hy⟩:∃y,elems[0]?=some y:=⟨elems[0]'(by omega),by simp⟩
       rw[hy,aA]at h1;obtain⟨vs,hv,h1⟩:=h1;rw[dV]at hv;exact cells_spot (a:=a.add 0) hv (by omega)
      obtain⟨ab,ao,asp⟩:=a;simp only at hsp;obtain⟨rfl,hab⟩:=hsp;have hr2:∀(i:Nat) r,(elems.map fun y=>dOf y.1)[i]?=some r→TY.oks l' r∧D.dps r=true∧iD NoM w ab (ao+i*P.cellsOf e) r:=fun i r hr=>by
       rw[gX,aG]at hr;obtain⟨y,hy,rfl⟩:=hr;have h1:=hi i (by rw[←hel];exact(cH.1 hy).1)
       rw[hy,aA]at h1;obtain⟨vs,hv,h1⟩:=h1;obtain⟨hd1,hd2,hd3⟩:=wY m n e l' vs y h1 hl';rw[Addr.add_lit]at hv;exact⟨hd3,hd2,cells_crel hv hd1⟩
      simp only[dOf,dOfs_rows,fA];refine⟨?_,?_,?_⟩
      ·simp only[aX,aP];refine⟨_,_,rfl,⟨_,cap,by rw[hel],by omega,by simp,.inr ⟨ab,ao,rfl,id,hab,iD.rows (c:=P.cellsOf e) fun i r hir=>?_⟩⟩,rfl⟩
       obtain⟨h1,_,h5⟩:=hr2 i r hir;exact⟨by rw[TY.oks_length h1];exact hc.1,h5⟩
      ·simp only[D.dps,D.dp,Bool.and_true];refine dps_flatten fun r hr=>?_
       obtain⟨i,hi⟩:=List.mem_iff_getElem?.1 hr;exact(hr2 i r hi).2.1
      ·simp only[TY.oks,TY.ok];refine⟨_,_,rfl,.inr ⟨elems.map fun y=>dOf y.1,by simp,by simp;omega,fun r hr=>?_⟩,rfl⟩
       obtain⟨i,hi⟩:=List.mem_iff_getElem?.1 hr;exact(hr2 i r hi).1
   ·cases ht
  ·rename_i fs hu;simp only[aA]at ht;obtain⟨L,hL,ht⟩:=ht;split at ht
   ·rename_i hc;cases ht;obtain⟨xs,n,rfl,rfl,hlen,hxl,hf⟩:=DataW.trod_struct hu h;have:=reads_fs (w:=w) (P:=P) (g:=tyOf P m) (cs:=cs) fs.toList xs 0 l hL (by simpa using hxl) (fun i f y hfm hy l' hl'=>by
     have h1:=hf i f (by simpa using hfm)
     rw[hy]at h1;exact wY m n f.type l' _ y h1 hl')
    rw[fU,cW (by omega)]at this
    simpa[dOf]using this
   ·cases ht
  ·rename_i k e hu;simp only[aA]at ht;obtain⟨l',hl',ht⟩:=ht;split at ht
   ·rename_i hc;cases ht;obtain⟨xs,n,rfl,rfl,hlen,hxl,hf⟩:=DataW.trod_array hu h;have:=reads_rep (w:=w) (l:=l') (cs:=cs) k 0 xs hxl (fun i y hy=>by
     have h1:=hf i (by have:=(cH.1 hy).1;omega)
     rw[hy]at h1;rw[bK,hc.1];exact wY m n e l' _ y h1 hl')
    rw[fU,cW (by omega)]at this
    simpa[dOf]using this
   ·cases ht
  ·cases ht
end
end Zv
namespace Zv
open Go Go.ChangeShapes Go.WideShapes Go.ChangeAt Go.RowKit
def argsOf(P:Program)(n:Nat):List TypeId→Option (List (Bool×List TY))
 | []=>some []
 | t::ts=>(tyOf P n t).bind fun l=>(argsOf P n ts).map fun r=>((match P.underlying t with|some (.struct _)|some (.array _ _)=>true|_=>false),l)::r
def AOk(a:Bool×List TY)(d:D):Prop:=match a.1 with
 | true=>∃ds,d = .agg ds∧TY.oks a.2 ds
 | false=>TY.oks a.2 [d]
def AOks:List (Bool×List TY)→List D→Prop
 | [],ds=>ds=[]
 | a::r,ds=>∃d ds',ds=d::ds'∧AOk a d∧AOks r ds'
section
variable {H:Type} {enc:TypeId×Value→H} {P:Program} {w w':World} {base:Nat} {spare:Nat→Bool} {held:Bool}
theorem not_agg{r:Reach}{b0:Nat}{t:TypeId}{m:Nat}{l:List TY}{v:Value}(ht:tyOf P m t=some l)
  (hn:(match P.underlying t with|some (.struct _)|some (.array _ _)=>true|_=>false)=false) (hv:Value.okWide P w r b0 t v):v.cells = #[v]:=by
 cases v<;>try rfl
 exfalso;cases m with
 | zero=>simp[tyOf]at ht
 | succ m=>
  unfold tyOf at ht;unfold Value.okWide Cell.okWide Cell.ok at hv;split at ht<;>simp_all
theorem args_in{r:Reach}{b0:Nat}{n:Nat}:∀{ts:List TypeId} {L:List (Bool×List TY)} {vs:List Value} {ds:List (DataW H)} {ps:List MemPlace},argsOf P n ts=some L →
  DataW.TrodAll enc P w base spare held ts vs ds ps→(∀(j:Nat) t v,ts[j]?=some t→vs[j]?=some v→Value.okWide P w r b0 t v) →
  ∃az,aX NoM w mu0 az vs∧D.dps az=true∧AOks L az
 | [],L,vs,ds,ps,ht,h,hv=>by
  obtain⟨rfl,_,_⟩:=trodAll_nil h;simp only[argsOf,aC]at ht;subst ht;exact⟨[],by simp[aX],rfl,by simp[AOks]⟩
 | t::ts,L,vs,ds,ps,ht,h,hv=>by
  obtain⟨v,vs',d,ds',p,q,rfl,rfl,rfl,⟨fuel,h1⟩,h2⟩:=trodAll_cons h;simp only[argsOf,aA,aG]at ht;obtain⟨l,hl,L',hL,rfl⟩:=ht;obtain⟨az,ha1,ha2,ha3⟩:=args_in hL h2 (fun j t v h3 h4=>hv (j+1) t v (by simpa using h3) (by simpa using h4))
  obtain⟨cs,hc1,hc2,hc3⟩:∃cs,oT w l v.cells.toList cs:=⟨_,wY n fuel t l _ _ h1 hl⟩
  have hv0:=hv 0 t v rfl rfl;cases hb:(match P.underlying t with|some (.struct _)|some (.array _ _)=>true|_=>false) with
  | false=>
   rw[not_agg hl hb hv0]at hc1;cases cs with
   | nil=>simp[aX]at hc1
   | cons c cs=>
    simp only[aX]at hc1;obtain⟨v',r',he,hc,hr⟩:=hc1;cases he;cases cs with
    | cons _ _=>simp[aX]at hr
    | nil=>
     simp only[D.dps,Bool.and_true]at hc2;refine⟨c::az,by simp only[aX];exact⟨_,_,rfl,hc,ha1⟩,by simp[D.dps,hc2,ha2],?_⟩
     simp only[AOks];exact⟨_,_,rfl,by simpa[AOk]using hc3,ha3⟩
  | true=>
   have hag:∃xs,v = .agg xs:=by
    unfold Value.okWide at hv0;split at hb
    ·rename_i e;rw[e]at hv0;obtain⟨xs,e',_⟩:=hv0;exact⟨xs,e'⟩
    ·rename_i e;rw[e]at hv0;obtain⟨xs,e',_⟩:=hv0;exact⟨xs,e'⟩
    ·cases hb
   obtain⟨xs,rfl⟩:=hag;simp only[Value.cells]at hc1;refine⟨.agg cs::az,?_,by simp[D.dps,D.dp,hc2,ha2],?_⟩
   ·simp only[aX,aP];exact⟨_,_,rfl,⟨_,rfl,hc1⟩,ha1⟩
   ·simp only[AOks];exact⟨_,_,rfl,by simpa[AOk]using hc3,ha3⟩
theorem xI{m:Nat}{n:String}{d:DataW Unit}{g:Nat}{t:TypeId}{l:List TY}(hg:P.globalNamed n=some g)(ht:(P.globals[g]?).map (·.type)=some t)(hl:tyOf P m t=some l):
  ∀{laid:List (String×DataW Unit)} {ps:List MemPlace},DataW.LaidVars P w laid ps→(n,d)∈laid→g<w.heap.size∧iD NoM w g 0 (dOf d)
 | [],ps,h,hm=>by cases hm
 | (n',d')::r,ps,h,hm=>by
  obtain⟨g',t',cs,fuel,p,q,h1,h2,h3,h4,h5,_⟩:=h;rcases bL.1 hm with e|hm
  ·cases e;rw[hg]at h1;cases h1;rw[ht]at h2;cases h2;have hr:=(wY m fuel t l _ _ h4 hl).1;simp only[World.var?,hg,aO]at h3;split at h3
   ·rename_i e;cases h3;refine⟨(Array.getElem?_eq_some_iff.1 e).1,iD.mk fun i d hd=>?_⟩
    obtain⟨v,hv,hvr⟩:=aX.nth i d hr hd;refine⟨v,?_,hvr⟩;simp only[World.cell?,e];simpa using hv
   ·cases h3
  ·exact xI hg ht hl h5 hm
theorem laid_of{laid:List (String×DataW Unit)}(hf:(laid.filter fun x=>x.2.handleName?.isSome)=[])(h:laidMetH P laid w):∃ps,DataW.LaidVars P w laid ps:=by
 unfold laidMetH at h;rw[hf]at h;obtain⟨ps,h,_⟩:=h;exact⟨ps,h⟩
theorem uR:∀{ts:List TypeId} {vs:List Value} {ds:List (DataW H)} {ps:List MemPlace},DataW.TrodAll enc P w base spare held ts vs ds ps →
  (∀p∈ps,w.sameAt w' p)→DataW.TrodAll enc P w' base spare held ts vs ds ps
 | [],vs,ds,ps,h,hs=>by
  obtain⟨rfl,rfl,rfl⟩:=trodAll_nil h;exact rfl
 | t::ts,vs,ds,ps,h,hs=>by
  obtain⟨v,vs',d,ds',p,q,rfl,rfl,rfl,⟨fuel,h1⟩,h2⟩:=trodAll_cons h;exact trodAll_cons_mk ⟨fuel,DataW.trod_carry fuel _ _ _ h1 fun p hp=>hs p (by simp at hp;simp[hp])⟩ (uR h2 fun p hp=>hs p (by simp[hp]))
theorem same_of{p:MemPlace}(hb:w'.heap[p.block]?=w.heap[p.block]?):w.sameAt w' p:=by
 cases p with
 | cell b o=>simp only[MemPlace.block]at hb;simp only[World.sameAt,World.cell?,hb]
 | map b=>exact hb
theorem row_true{E:Env}{f:FuncId}{fn:Func}{s:ChangeSpec}{W:World}{args:Array Value}{ds gs:List (DataW H)}{before:List MemPlace}{az:List D}{t:TypeId}{apart fresh again:Bool}{held':Bool}
  (K:Kids E.P (· < E.P.types.size)) (hz:∀t e,t<E.P.types.size→E.P.underlying t=some (.slice e)→0<E.P.cellsOf e) (hT:∀t∈fn.params.toList,t<E.P.types.size)
  (hvars:s.vars=[]) (hfn:∀(d0:List (DataW H)),d0.length=fn.params.size→s.fn H d0={ results:=[.lit (.bool true)],args:=d0 })
  (hres:fn.resultTypes = #[t]) (hu:E.P.underlying t=some .bool)
  (hW:DataW.Whole enc E.P fn.params.toList s.vars apart W args.toList ds gs before)
  (hp:xZ E f az (.bool true)) (hG:GRel E NoM W) (hv:aX NoM W mu0 az args.toList) :
  Calls E.P f args W fun e W'=>∃v,e = .returned v∧s.post enc E.P fn apart fresh held' again W args v W':=by
 have hp':=hp NoM W args.toList (fun b hb=>hb.elim) hG hv
 refine hp'.mono ?_;rintro e W' ⟨v,rfl,hr,hsz,henv,hold⟩;simp only[aP]at hr;subst hr;have hlt:=hW.lt;have hW0:=hW;obtain⟨p,q,hA,hV,hbe,hfz,hnd⟩:=hW;rw[hvars]at hV;obtain⟨rfl,rfl⟩:=trodVars_none hV;rw[dB]at hbe;subst hbe;have hlen:=(trodAll_length hA).2;simp only[eP]at hlen;have hspec:=hfn (ds++[]) (by simpa using hlen)
 have hsame:∀p∈before,W.sameAt W' p:=fun p hp=>same_of (hold _ (hlt p hp))
 have hA':=uR hA hsame;have hAs:∀sp:Nat→Bool,(∀p∈before,sp p.block=true)→DataW.TrodAll enc E.P W' 0 sp true fn.params.toList args.toList ds before:=
  fun sp hsp=>DataW.TrodAll.respare K hz hT hA' hsp
 have hbool:∀(b:Nat) (sp:Nat→Bool) (hd:Bool),DataW.TrodAll enc E.P W' b sp hd fn.resultTypes.toList ((Value.bool true).resultList fn.resultTypes.size) [.lit (.bool true)] []:=fun b sp hd=>by
  rw[hres];exact trodAll_mk1 (shut_bool hu true)
 refine⟨_,rfl,ds,[],before,[],before,[],hW0,?_,?_,?_,?_,?_⟩
 ·rw[hspec];exact hbool _ _ _
 ·rw[hspec,dB];exact hAs _ fun p hp=>by simpa using hlt p hp
 ·rw[hspec,hvars];exact rfl
 ·refine⟨henv.1,henv.2,fun i hi=>?_⟩
  rw[hold i hi];rcases hx:W.heap[i]? with _|o
  ·rfl
  ·cases o<;>simp
 ·intro _;refine⟨ok_one hres rfl (okWide_bool_mk hu true),[.lit (.bool true)]++ds,[],[]++before,⟨[]++before,[],trodAll_append (hAs _ fun _ _=>rfl) (hbool _ _ _),?_,by simp,?_,?_⟩,?_⟩
  ·rw[hvars];exact rfl
  ·intro b off hb;have hb':MemPlace.cell b off∈before:=by simpa using hb
   have:=hfz b off hb';simp only[World.frozen?,hold b (hlt _ hb')]at this ⊢;exact this
  ·intro ha;simpa using hnd ha
  ·intro p hp _;simpa using hp
end
end Zv
