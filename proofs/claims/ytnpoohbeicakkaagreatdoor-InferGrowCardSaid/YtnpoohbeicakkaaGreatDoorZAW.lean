/- infer.Look. Conditions: none. -/
import Derived.Test.YtnpoohbeicakkaaGreatDoorZAV
set_option linter.unusedVariables false
set_option linter.unusedSimpArgs false
set_option maxRecDepth 100000
namespace Zv
open Go
noncomputable section
theorem exD_form(l:List Nd):∃x y,exD l=e2 x y:=by
 unfold exD;split
 ·exact⟨_,_,rfl⟩
 split
 ·exact⟨_,_,rfl⟩
 rcases eR (kG l) (scan (lJ l) (oB l) l.length 0) l.length 0 with⟨_,h2⟩|⟨j,r,_,_,h3,_,h4⟩
 ·rw[h2];rcases eR (lJ l) (oB l) l.length 0 with⟨_,g2⟩|⟨j,r,_,_,g3,_,g4⟩
  ·rw[g2];unfold oB
   repeat' split
   all_goals exact⟨_,_,rfl⟩
  ·rw[g4];unfold lJ at g3
   repeat' split at g3
   all_goals first|(cases g3;exact⟨_,_,rfl⟩)|cases g3
 ·rw[h4];unfold kG at h3
  repeat' split at h3
  all_goals first|(cases h3;exact⟨_,_,rfl⟩)|cases h3
theorem exE_ok{l:List Nd}(h:exE l=0):XOk l:=by
 obtain⟨x,y,e⟩:=exD_form l;rw[exE_eq e]at h;exact⟨x,by rw[e,h]⟩
structure EnvG (us:List Nat) (vs:List Vr) (fs:List Fd):Prop where
 vl:vs.length≤32
 fl:fs.length≤16
 vt:∀x∈vs,tyE us (gZ us) x.ty=0
 vn:∀(i:Nat) (h:i<vs.length),iP vs[i].name=true∧vs[i].name∉(vs.take i).map Vr.name
 fb:∀g∈fs,XOk g.body
theorem env_ok{us:List Nat}{vs:List Vr}{fs:List Fd}(h:envE us vs fs=0):EnvG us vs fs:=by
 unfold envE at h;split at h
 ·cases h
 rename_i hl;have nm:∀{s:List UInt8} {L:List (List UInt8)},mX s L=0→iP s=true∧s∉L:=fun {s L} hs=>by
  unfold mX at hs;split at hs
  ·rename_i h1;split at hs
   ·cases hs
   ·exact⟨h1,by assumption⟩
  ·cases hs
 rcases eR (vP us vs) (scan (dfP vs fs) 0 fs.length 0) vs.length 0 with⟨h1,h2⟩|⟨j,r,_,hj,h3,_,h4⟩
 ·rw[h2]at h;have hv:∀(i:Nat) (hi:i<vs.length),tyE us (gZ us) vs[i].ty=0∧iP vs[i].name=true∧vs[i].name∉(vs.take i).map Vr.name:=fun i hi=>by
   have:=h1 i (dK _) (by omega)
   rw[vP,aI hi]at this;simp only at this;split at this
   ·rename_i hn;split at this
    ·exact⟨by assumption,nm hn⟩
    ·cases this
   ·cases this
  rcases eR (dfP vs fs) 0 fs.length 0 with⟨g1,g2⟩|⟨j,r,_,hj,g3,_,g4⟩
  ·refine⟨by omega,by omega,fun x hx=>?_,fun i hi=>(hv i hi).2,fun g hg=>?_⟩
   ·obtain⟨i,hi,rfl⟩:=eO hx;exact(hv i hi).1
   ·obtain⟨i,hi,rfl⟩:=eO hg;have:=g1 i (dK _) (by omega)
    rw[dfP,aI hi]at this;simp only at this;split at this
    ·split at this
     ·rename_i hd;unfold defE at hd;split at hd
      ·split at hd
       ·split at hd
        ·cases hd
        ·exact exE_ok hd
       ·cases hd
      ·cases hd
     ·cases this
    ·cases this
  ·rw[g4]at h;subst h;have hj':j<fs.length:=by omega
   rw[dfP,aI hj']at g3;simp only at g3;split at g3
   ·split at g3
    ·cases g3
    ·rename_i hne;exact absurd (Option.some.inj g3) hne
   ·rename_i hne;exact absurd (Option.some.inj g3) hne
 ·rw[h4]at h;subst h;have hj':j<vs.length:=by omega
  rw[vP,aI hj']at h3;simp only at h3;split at h3
  ·split at h3
   ·cases h3
   ·rename_i hne;exact absurd (Option.some.inj h3) hne
  ·rename_i hne;exact absurd (Option.some.inj h3) hne
def lookD(n:Nat)(d e:D)(us:List Nat)(low:Nat)(vs:List Vr)(fs:List Fd)(pc ec:Int)(x:List Nd):D:=
 if ¬((0≤pc∧pc<us.length)∧0≤ec∧ec<us.length) then .tup [.agg zl0,.int .i64 0,.int .i64 7]
 else if exE x≠0 then .tup [.agg zl0,.int .i64 0,.int .i64 (exE x)]
 else match uL ⟨us,low,pc.toNat,RDl n d e⟩ (fs.length+1) fs vs x ⟨ec.toNat,0,[]⟩ with
  | .ok p=>xB p
  | .bad a b=>.tup [.agg zl0,.int .i64 a,.int .i64 b]
section
variable (n:Nat) {ss:List (List UInt8)} {us:List Nat} {d e v f dx:D} {vs:List Vr} {fs:List Fd} {x:List Nd} (pc ec:Int)
theorem c13e(hd:Sl 1 iC ss d)(he:Sl 1 u8C us e)(hE:tR vs fs v f){er:Int}(h22:cl n 22 [.agg [d,e,v,f]]=some (.int .i64 er,true))(h0:er≠0):cl (n+1) 13 [.agg [d,e,v,f],.int .i64 pc,.int .i64 ec,dx]=some (.tup [.agg zl0,.int .i64 0,.int .i64 er],true):=by
 refine pW (A:=A13) rfl rfl (n+1) _ rfl fun r hr=>?_
 refine(W_h13 (Q:=yA (n+1) (.tup [.agg zl0,.int .i64 0,.int .i64 er])) ?_) r hr;obtain⟨t,s,c,hz,hL⟩:=h13_env n (dx:=dx) pc ec ⟨hd.nag,hd.fz⟩ ⟨he.nag,he.fz⟩ ⟨hE.v.nag,hE.v.fz⟩ ⟨hE.f.nag,hE.f.fz⟩ h22 h0;rw[hz];exact uH (n+1) 0 er hL
theorem c13(h:Lt ss us d e)(hE:tR vs fs v f)(henv:envE us vs fs=0){low:Nat}(hlow:gZ us=low)(hll:low<us.length)(hlb:∀i,i<us.length→(uM us low).testBit i=true)(hx:Sl 7 bU x dx)(hxl:x.length<4294967296)(hN:x.length≤400→NdOk x):
  cl (n+13) 13 [.agg [d,e,v,f],.int .i64 pc,.int .i64 ec,dx]=some (lookD n d e us low vs fs pc ec x,true):=by
 have h22:=c22 n h.d h.e h.u h.s h.c hE;rw[henv]at h22;have hG:=env_ok henv;have h42:=c42 (n+1) hx hxl hN;have h43:=c43 (n+5) h.d h.e h.u h.s h.c h.l h.h1 h.h8;obtain⟨b,hb,hb1,hb2,_⟩:=oN h.c;rw[hb2]at h43;have hbl:b=low:=by rw[hlow]at hb1;omega
 rw[hbl]at h43;obtain⟨xa,xe,hxD⟩:=exD_form x;rw[hxD]at h42;have hxe:=exE_eq hxD;unfold lookD;by_cases hr:¬((0≤pc∧pc<us.length)∧0≤ec∧ec<us.length)
 ·rw[aH hr];refine pW (A:=A13) rfl rfl (n+13) _ rfl fun r hr'=>?_
  refine(W_h13 (Q:=yA (n+13) (.tup [.agg zl0,.int .i64 0,.int .i64 7])) ?_) r hr';obtain⟨t,s,c,hz,hL⟩:=h13_rng (n+12) (dx:=dx) pc ec h hE h22 hr;rw[hz];exact uH (n+13) 0 7 hL
 rw[aD hr];obtain⟨⟨p1,p2⟩,p3,p4⟩:=Decidable.not_not.1 hr;obtain⟨pc,rfl⟩:∃k:Nat,pc=k:=⟨pc.toNat,by omega⟩
 obtain⟨ec,rfl⟩:∃k:Nat,ec=k:=⟨ec.toNat,by omega⟩
 rw[cU,cU];by_cases h0:exE x≠0
 ·rw[aH h0];refine pW (A:=A13) rfl rfl (n+13) _ rfl fun r hr'=>?_
  refine(W_h13 (Q:=yA (n+13) (.tup [.agg zl0,.int .i64 0,.int .i64 (exE x)])) ?_) r hr';rw[hxe]at h0 ⊢;obtain⟨t,s,c,hz,hL⟩:=h13_exp (n+12) pc ec h hE h22 (by omega) (by omega) hx h42 h0
  rw[hz];exact uH (n+13) 0 xe hL
 rw[aD h0];have hx0:exE x=0:=Decidable.not_not.1 h0;have hxo:=exE_ok hx0;rw[hxe]at hx0;rw[hx0]at h42;obtain⟨g1,g2,g3,g5,g6,gf⟩:=S44_get d e v f low pc ec;have hEO:EOk (EC n us ⟨d,e,low,pc,5,v,f⟩) ss d e:=⟨h,hlow,hll,hlb,by show pc<us.length;omega,fun p ts hl hg h0=>by
  obtain⟨t,w,c,er,e1,e2,e3⟩:=rd_ok n h p hl hg;have e1':(EC n us ⟨d,e,low,pc,5,v,f⟩).R p ts=(t,w,c,er):=e1;rw[e1']at h0 ⊢;exact e3 h0⟩
 have hxle:=hxo.ex.le;have hfo:∀g∈fs,FdOk g:=hE.fo
 have hlk:SG us (⟨ec,0,[]⟩:Lk):=⟨by show ec<us.length;omega,nofun,dK _⟩
 have hfl:=hG.fl;have h44:=f44 n (M:=5) (fs.length+1) 4096 (by omega) v f hEO fs (by omega) (by omega) hE.f hfo hG.fb vs x dx hx (hN hxle) hxo ⟨ec,0,[]⟩ .nils (S44 d e v f low pc ec) 7 6 hlk ⟨hE.v.nag,⟨v,hE.v,fun s2 _ k=>hE.v.fz (k+1) s2⟩,hE.vl,hG.vt⟩ g6 rfl g5 (by decide) (by decide) gf
 change jR _ 6 (uL ⟨us,low,pc,RDl n d e⟩ (fs.length+1) fs vs x ⟨ec,0,[]⟩) _ _ _ at h44;generalize hr2:uL ⟨us,low,pc,RDl n d e⟩ (fs.length+1) fs vs x ⟨ec,0,[]⟩=r2 at h44 ⊢;have hok:=h13_ok (n+12) pc ec h hE h22 (by omega) (by omega) hx h42 h43 h44
 cases r2 with
 | bad a b=>
  refine pW (A:=A13) rfl rfl (n+13) _ rfl fun r hr'=>?_
  refine(W_h13 (Q:=yA (n+13) (.tup [.agg zl0,.int .i64 a,.int .i64 b])) ?_) r hr';obtain⟨t,s,c,hz,hL⟩:=hok;rw[hz];exact uH (n+13) a b hL
 | ok p=>
  refine pW (A:=A13) rfl rfl (n+13) _ rfl fun r hr'=>?_
  refine(W_h13 (Q:=yA (n+13) (xB p)) ?_) r hr';obtain⟨t,s,c,hz,hL⟩:=hok;rw[hz];have hgb:∀g∈fs,rQ g.body:=fun g hg=>(hG.fb g hg).ex
  have hkp:=xC (kp_pres _) kp_tick (fs.length+1) fs hgb vs x _ p hxo.ex (kp_tick ⟨ec,0,[]⟩ ⟨List.nodup_nil,aJ _⟩) hr2;have hne:=xC (ne_pres _) (fun _ _=>trivial) (fs.length+1) fs hgb vs x _ p hxo.ex trivial hr2
  have hlk2:=(xD hEO (fs.length+1) fs hgb).2 vs x _ p hxo.ex hG.vt hlk hr2;exact t13 (n+12) _ rfl hkp.1 (by have:=hkp.2;have:=hlk2.2.lk;omega) hne hL
end
section
variable (n:Nat) {ss:List (List UInt8)} {us:List Nat} {d e:D} (h:Lt ss us d e) {a b:Nat} (ha:a<us.length) (hb:b<us.length)
include h ha hb
theorem c50:cl (n+4) 50 [.agg [d,e],.int .i64 (a:Nat),.int .i64 (b:Nat)]=some (.int .i64 0,true):=by
 rw[cK (A:=A50) rfl (n+4) _ rfl,show A50.body=B50 from rfl]
 simp only[B50,Ab.abq];have h54:=c54 n h.d h.e h.u h.s;rw[h.c]at h54;unfold e2 at h54;have ld:=h.d.len;rw[←h.l]at ld;have p1:decide (((a:Nat):Int)<0)=false:=aK (by omega)
 have p2:decide (((us.length:Nat):Int)≤(a:Nat))=false:=aK (by omega)
 have p3:decide (((b:Nat):Int)<0)=false:=aK (by omega)
 have p4:decide (((us.length:Nat):Int)≤(b:Nat))=false:=aK (by omega)
 simp only[z0,seval,h.d.nag,h.e.nag,h.d.fz,h.e.fz,aF (f:=54) rfl,aQ,h54,ld,p1,p2,p3,p4,aV,A50];rfl
theorem c19:cl (n+5) 19 [.agg [d,e],.int .i64 (a:Nat),.int .i64 (b:Nat)]=some (.tup [.bool ((uM us a).testBit b),.int .i64 0],true):=by
 rw[cK (A:=A19) rfl (n+5) _ rfl,show A19.body=B19 from rfl]
 simp only[B19,Ab.abq];have h50:=c50 n h ha hb;have h56:=c56 (n+4) (d:=d) h.d.nag h.e h.u ha b;simp only[z0,seval,h.d.nag,h.e.nag,h.d.fz,h.e.fz,aF (f:=50) rfl,aF (f:=56) rfl,aQ,h50,h56,aV,A19];rfl
end
inductive kF {α:Type} (T:α→α→Prop):List α→List α→Prop
 | nil:kF T [] []
 | cons {a b:α} {l m:List α}:T a b→kF T l m→kF T (a::l) (b::m)
theorem kF.len{α:Type}{T:α→α→Prop}:∀{l m:List α},kF T l m→l.length=m.length
 | _,_,.nil=>rfl
 | _,_,.cons _ h=>by simp[h.len]
theorem kF.take{α:Type}{T:α→α→Prop}:∀{l m:List α},kF T l m→∀n,kF T (l.take n) (m.take n)∧kF T (l.drop n) (m.drop n)
 | _,_,.nil,n=>by simp only[List.take_nil,List.drop_nil];exact⟨.nil,.nil⟩
 | _,_,.cons h h',0=>⟨.nil,.cons h h'⟩
 | _,_,.cons h h',n+1=>⟨.cons h (h'.take n).1,(h'.take n).2⟩
def VRl(T:Tl→Tl→Prop)(a b:Vr):Prop:=a.name=b.name∧T (toT a.ty) (toT b.ty)
theorem toT_tl(t:Tl):toT (tl t)=t:=by cases t;simp[toT,tl]
theorem zip_rel{T:Tl→Tl→Prop}:∀{ts us:List Tl} (ps:List (List UInt8)),kF T ts us→kF (VRl T) (oW ps ts) (oW ps us)
 | _,_,[],_=>.nil
 | _,_,_::_,.nil=>.nil
 | _,_,_::ps,.cons h h'=>.cons ⟨rfl,by rw[toT_tl,toT_tl];exact h⟩ (zip_rel ps h')
theorem vfd_rel{T:Tl→Tl→Prop}(s:List UInt8):∀{vs ws:List Vr},kF (VRl T) vs ws→match vs.find? (fun v=>decide (v.name=s)) with
  | none=>True
  | some a=>∃b,ws.find? (fun v=>decide (v.name=s))=some b∧VRl T a b
 | _,_,.nil=>trivial
 | a::l,b::m,.cons h h'=>by
  have ih:=vfd_rel s h';rw[List.find?_cons,List.find?_cons,←h.1];cases hd:decide (a.name=s) with
  | true=>exact⟨b,rfl,h⟩
  | false=>exact ih
structure Rel2 (E F:LEn) (T:Tl→Tl→Prop) (S S':Lk→Lk→Prop):Prop where
 tick:∀s t,S s t→s.lk=t.lk∧S' s.tick t.tick
 mark:∀s t x,S' s t→S (s.mark E x) (t.mark F x)
 num:∀k r:Int,(k=1∨k=2)→(r=0∨r=1)→T ⟨k,r,E.low,E.low,E.low⟩ ⟨k,r,F.low,F.low,F.low⟩
 prim:∀x ts us s t p,kF T ts us→(ts.length=1∨ts.length=2)→S' s t→uV E x ts s = .ok p→∃q,uV F x us t = .ok q∧T p.1 q.1∧S' p.2 q.2
def Ok2{α:Type}(R:α→α→Prop)(a b:Lo α):Prop:=∀p,a = .ok p→∃q,b = .ok q∧R p q
section
variable {E F:LEn} {T:Tl→Tl→Prop} {S S':Lk→Lk→Prop} (h:Rel2 E F T S S')
include h
def CalR(T:Tl→Tl→Prop)(S:Lk→Lk→Prop)(c c':Nat→List Vr→Lk→Lo (Tl×Lk)):Prop:=∀i vs ws s t,kF (VRl T) vs ws→S s t→Ok2 (fun p q=>T p.1 q.1∧S p.2 q.2) (c i vs s) (c' i ws t)
theorem node_rel{c c':Nat→List Vr→Lk→Lo (Tl×Lk)}(hc:CalR T S c c'){fs:List Fd}{vs ws:List Vr}(hv:kF (VRl T) vs ws){x:Nd}(hx:oU x)(hk:1≤x.kind∧x.kind≤6){st su:List Tl}(hst:kF T st su)(hop:opN x≤st.length){s t:Lk}(hl:s.lk=t.lk)(hs:S' s.tick t.tick):
  Ok2 (fun p q=>kF T p.1 q.1∧p.1.length=st.length-opN x+1∧S p.2 q.2) (mW E c fs vs x st s) (mW F c' fs ws x su t):=by
 intro p hp;unfold mW at hp ⊢;rw[←hl];split at hp
 ·cases hp
 rename_i hb;rw[aD hb];obtain⟨h1,h2⟩:=hst.take (opN x);have hargs:x.kind=5∨x.kind=6→(st.take (opN x)).length=1∨(st.take (opN x)).length=2:=fun h56=>by
  have hkk:=hx.kp h56;have:opN x=x.kids.toNat:=by unfold opN fJ;rw[aH h56]
  rw[dG];omega
 generalize st.take (opN x)=ts at *;generalize su.take (opN x)=us at *;cases hq:rU E c fs vs x ts s.tick with
 | bad a e=>rw[hq]at hp;cases hp
 | ok q=>
  rw[hq]at hp;cases hp;have key:∃q',rU F c' fs ws x us t.tick = .ok q'∧T q.1 q'.1∧(if x.kind=6 then S q.2 q'.2 else S' q.2 q'.2):=by
   unfold rU at hq ⊢;by_cases k1:x.kind=1
   ·rw[aH k1]at hq ⊢;cases hq;exact⟨_,rfl,h.num 1 0 (.inl rfl) (.inl rfl),by rw[aD (by omega)];exact hs⟩
   rw[aD k1]at hq ⊢;by_cases k3:x.kind=3
   ·rw[aH k3]at hq ⊢;cases hq;exact⟨_,rfl,h.num 1 1 (.inl rfl) (.inr rfl),by rw[aD (by omega)];exact hs⟩
   rw[aD k3]at hq ⊢;by_cases k2:x.kind=2
   ·rw[aH k2]at hq ⊢;cases hq;exact⟨_,rfl,h.num 2 1 (.inr rfl) (.inr rfl),by rw[aD (by omega)];exact hs⟩
   rw[aD k2]at hq ⊢;by_cases k4:x.kind=4
   ·rw[aH k4]at hq ⊢;have hf:=vfd_rel x.name hv;unfold nameM at hq ⊢;split at hq
    ·cases hq
    ·rename_i a ha;cases hq;rw[ha]at hf;obtain⟨b,hb,hab⟩:=hf;rw[hb];exact⟨_,rfl,hab.2,by rw[aD (by omega)];exact hs⟩
   rw[aD k4]at hq ⊢;by_cases k5:x.kind=5
   ·rw[aH k5]at hq ⊢;obtain⟨q',g1,g2,g3⟩:=h.prim x ts us _ _ q h1 (hargs (.inl k5)) hs hq;exact⟨q',g1,g2,by rw[aD (by omega)];exact g3⟩
   rw[aD k5]at hq ⊢;have k6:x.kind=6:=by omega
   unfold calM at hq ⊢;cases hfi:fs.findIdx? (fun f=>decide (f.name=x.name)) with
   | none=>rw[hfi]at hq;cases hq
   | some i=>
    rw[hfi]at hq;simp only at hq ⊢;cases hg:fs[i]? with
    | none=>rw[hg]at hq;cases hq
    | some g=>
     rw[hg]at hq;simp only at hq ⊢;rw[←h1.len];split at hq
     ·cases hq
     rename_i hps;rw[aD hps];obtain⟨q',g1,g2,g3⟩:=hc i _ _ _ _ (zip_rel g.ps h1) (h.mark _ _ x.site hs) q hq;exact⟨q',g1,g2,by rw[aH k6];exact g3⟩
  obtain⟨q',g1,g2,g3⟩:=key;rw[g1];refine⟨_,rfl,.cons g2 h2,by simp,?_⟩
  show S (if x.kind=6 then q.2 else q.2.mark E x.site) (if x.kind=6 then q'.2 else q'.2.mark F x.site)
  by_cases k6:x.kind=6
  ·rw[aH k6,aH k6];rw[aH k6]at g3;exact g3
  ·rw[aD k6,aD k6];rw[aD k6]at g3;exact h.mark _ _ _ g3
theorem run_rel{c c':Nat→List Vr→Lk→Lo (Tl×Lk)}(hc:CalR T S c c'){fs:List Fd}{vs ws:List Vr}(hv:kF (VRl T) vs ws):∀(l:List Nd) (st su:List Tl) (s t:Lk) (b:Nat),(∀x∈l,oU x∧1≤x.kind∧x.kind≤6)→pX l st.length b→kF T st su→(l≠[]∧s.lk=t.lk∧S' s.tick t.tick∨S s t) →
  Ok2 (fun p q=>kF T p.1 q.1∧p.1.length=b∧S p.2 q.2) (kX E c fs vs l st s) (kX F c' fs ws l su t)
 | [],st,su,s,t,b,_,hS,hst,hs=>fun p hp=>by
  cases hp;rcases hs with⟨hn,_⟩|hs
  ·exact absurd rfl hn
  ·exact⟨_,rfl,hst,hS,hs⟩
 | x::r,st,su,s,t,b,hx,hS,hst,hs=>fun p hp=>by
  rw[kX]at hp ⊢;obtain⟨h1,h2⟩:=hx x (bH ..);have hs':s.lk=t.lk∧S' s.tick t.tick:=hs.elim (fun h=>h.2) (h.tick s t)
  cases hq:mW E c fs vs x st s with
  | bad a e=>rw[hq]at hp;cases hp
  | ok q=>
   rw[hq]at hp;obtain⟨q',g1,g2,g3,g4⟩:=node_rel h hc hv h1 h2 hst hS.1 hs'.1 hs'.2 q hq;rw[g1];exact run_rel hc hv r q.1 q'.1 q.2 q'.2 b (fun y hy=>hx y (bG _ hy)) (by rw[g3];exact hS.2) g2 (.inr g4) p hp
theorem lok_rel:∀(f:Nat) (fs:List Fd),(∀g∈fs,rQ g.body)→∀(vs ws:List Vr) (x:List Nd) (s t:Lk),kF (VRl T) vs ws→rQ x→s.lk=t.lk→S' s.tick t.tick→Ok2 (fun p q=>T p.1 q.1∧S p.2 q.2) (uL E f fs vs x s) (uL F f fs ws x t)
 | 0,_,_,_,_,_,_,_,_,_,_,_=>fun p hp=>by cases hp
 | f+1,fs,hf,vs,ws,x,s,t,hv,hx,hl,hs=>fun p hp=>by
  rw[xE]at hp ⊢;have hc:CalR T S (pS E f fs) (pS F f fs):=fun i vs ws s t hv hs=>by
   unfold pS;cases hg:fs[i]? with
   | none=>exact fun p hp=>by cases hp
   | some g=>
    obtain⟨hi,rfl⟩:=cH.1 hg;have:=h.tick s t hs;exact lok_rel f (fs.take i) (fun g hg=>hf g (eW hg)) vs ws _ s t hv (hf _ (cB hi)) this.1 this.2
  cases hr:kX E (pS E f fs) fs vs (gL x) [] s with
  | bad a e=>rw[hr]at hp;cases hp
  | ok q=>
   obtain⟨q',g1,g2,g3,g4⟩:=run_rel h hc hv (gL x) [] [] s t 1 (pU hx) (mK hx) .nil (.inl ⟨nodes_ne hx,hl,hs⟩) q hr;rw[hr]at hp;rw[g1];obtain⟨st,sm⟩:=q;obtain⟨su,sn⟩:=q'
   match st,su,g2,g3 with
   | [u],[v],.cons g5 _,_=>cases hp;exact⟨_,rfl,g5,g4⟩
end
section
variable {ss:List (List UInt8)} {us:List Nat} {d e:D} (h:Lt ss us d e)
include h
end
def Bd{α:Type}(r:Lo α):Prop:=∀a e,r = .bad a e→e≠0
theorem node_bad{E:LEn}{cal:Nat→List Vr→Lk→Lo (Tl×Lk)}{fs:List Fd}(hc:∀i vs s,i<fs.length→(∀v∈vs,tyE E.us (gZ E.us) v.ty=0)→SG E.us s→Bd (cal i vs s)){ss:List (List UInt8)}{d e:D}(h:EOk E ss d e){vs:List Vr}{x:Nd}{st:List Tl}{s:Lk}(hg:∀t∈st,TG E.us t)(hs:SG E.us s):Bd (mW E cal fs vs x st s):=by
 intro a b hp;unfold mW at hp;split at hp
 ·cases hp;decide
 rename_i hb;split at hp
 ·cases hp
 rename_i a' b' hq;cases hp;unfold rU at hq;split at hq
 ·cases hq
 split at hq
 ·cases hq
 split at hq
 ·cases hq
 split at hq
 ·unfold nameM at hq;split at hq
  ·cases hq;decide
  ·cases hq
 split at hq
 ·unfold uV at hq;split at hq
  ·cases hq;assumption
  split at hq
  ·cases hq;assumption
  ·cases hq
 ·unfold calM at hq;split at hq
  ·cases hq;decide
  rename_i i hi;obtain⟨hil,_⟩:=List.findIdx?_eq_some_iff_getElem.1 hi;rw[aI hil]at hq;simp only at hq;split at hq
  ·cases hq;decide
  rename_i hps;refine hc _ _ _ hil (fun v hv=>?_) ((show SG E.us s.tick from⟨hs.ec,hs.lb,by show s.lk+1≤2000;omega⟩).mark h _) _ _ hq
  obtain⟨k,hk,rfl⟩:=eO hv;have hgl:=Decidable.not_not.1 hps;have hk':k<(st.take (opN x)).length:=by rw[pP hgl]at hk;exact hk
  have e:(oW fs[i].ps (st.take (opN x)))[k]=⟨fs[i].ps[k],tl (st.take (opN x))[k]⟩:=List.getElem_zipWith;rw[e];exact(hg _ (eW (cB hk'))).2.2
theorem run_bad{E:LEn}{cal:Nat→List Vr→Lk→Lo (Tl×Lk)}{fs:List Fd}(hc:∀i vs s,i<fs.length→(∀v∈vs,tyE E.us (gZ E.us) v.ty=0)→SG E.us s→Bd (cal i vs s)){ss:List (List UInt8)}{d e:D}(h:EOk E ss d e)(hco:CalOk E cal){vs:List Vr}(hv:∀v∈vs,tyE E.us (gZ E.us) v.ty=0):∀(l:List Nd) (st:List Tl) (s:Lk) (b:Nat),(∀x∈l,oU x∧1≤x.kind∧x.kind≤6)→pX l st.length b→(∀t∈st,TG E.us t)→SG E.us s→Bd (kX E cal fs vs l st s)
 | [],_,_,_,_,_,_,_=>fun _ _ hp=>by cases hp
 | x::r,st,s,b,hx,hS,hg,hs=>fun a e' hp=>by
  rw[kX]at hp;cases hq:mW E cal fs vs x st s with
  | bad a' e2=>rw[hq]at hp;cases hp;exact node_bad hc h hg hs _ _ hq
  | ok q=>
   rw[hq]at hp;obtain⟨h1,h2⟩:=hx x (bH ..);obtain⟨g1,g2,g3⟩:=node_inv h hco hv h1 hS.1 h2 hg hs hq;exact run_bad hc h hco hv r q.1 q.2 b (fun y hy=>hx y (bG _ hy)) (by rw[g3];exact hS.2) g1 g2 a e' hp
theorem lok_bad{E:LEn}{ss:List (List UInt8)}{d e:D}(h:EOk E ss d e):∀(f:Nat) (fs:List Fd),fs.length<f→(∀g∈fs,rQ g.body)→∀(vs:List Vr) (x:List Nd) (s:Lk),rQ x→(∀v∈vs,tyE E.us (gZ E.us) v.ty=0)→SG E.us s→Bd (uL E f fs vs x s)
 | 0,fs,hl,_,_,_,_,_,_,_=>by omega
 | f+1,fs,hl,hf,vs,x,s,hx,hv,hs=>fun a b hp=>by
  rw[xE]at hp;have hco:=(xD h f fs hf).1;have hc:∀i vs s,i<fs.length→(∀v∈vs,tyE E.us (gZ E.us) v.ty=0)→SG E.us s→Bd (pS E f fs i vs s):=fun i vs s hi hv hs=>by
   unfold pS;rw[aI hi];exact lok_bad h f (fs.take i) (by rw[dG];omega) (fun g hg=>hf g (eW hg)) vs _ s (hf _ (cB hi)) hv hs
  cases hr:kX E (pS E f fs) fs vs (gL x) [] s with
  | bad a' e'=>rw[hr]at hp;cases hp;exact run_bad hc h hco hv (gL x) [] s 1 (pU hx) (mK hx) nofun hs _ _ hr
  | ok q=>
   obtain⟨_,_,g3⟩:=run_inv h hco hv (gL x) [] s q 1 (pU hx) (mK hx) nofun hs hr;rw[hr]at hp;obtain⟨st,sm⟩:=q
   match st,g3 with
   | [t],_=>cases hp
def TU(us:List Nat)(a b:Tl):Prop:=TLe us a b∧TG us a∧TG us b
theorem tg_gd{us:List Nat}{low:Nat}(hl:gZ us=(low:Nat))(hb:∀i,i<us.length→(uM us low).testBit i=true){t:Tl}(h:TG us t):Gd us t:=gd_of hl hb h.1 h.2.2
def ruT(bot:Nat)(k r er:Int)(g:Nat×Nat×Nat×Nat×Nat):Ty×Int×Int×Int:=
 if er=0 then(tl ⟨k,r,if r≤0 then bot else g.1,if r≤1 then bot else g.2.1,g.2.2.1⟩,(g.2.2.2.1:Nat),(g.2.2.2.2:Nat),0) else(⟨0,0,0,0,0⟩,0,0,er)
theorem ruV_R(bot:Nat)(k r er:Int)(g:Nat×Nat×Nat×Nat×Nat):ruV (some (ruR bot k r er g,true))=ruT bot k r er g:=by
 unfold ruR ruT;split<;>rfl
theorem rd_pair(n:Nat){ss:List (List UInt8)}{us:List Nat}{d e:D}(h:Lt ss us d e){low:Nat}(hlow:low<us.length)(hl:gZ us=(low:Nat))(hb:∀i,i<us.length→(uM us low).testBit i=true)(p:Int){ts us':List Tl}(hT:kF (TU us) ts us')(hn:ts.length=1∨ts.length=2):
  ∃(k r er:Int) (g g':Nat×Nat×Nat×Nat×Nat),RDl n d e p ts=ruT low k r er g∧RDl n d e p us'=ruT low k r er g'∧QR us g g':=by
 obtain⟨b,hb1,hb2,hend,_⟩:=oN h.c;have:b=low:=by rw[hl]at hb2;omega
 subst this;have hsl:∀ts:List Tl,Sl 5 tlC ts (argD ts):=fun ts=>⟨fun r hr=>by obtain⟨t,_,rfl⟩:=cQ.1 hr;rfl,.inr ⟨false,by rw[fA];rfl⟩⟩
 have g0:Gd us ⟨0,0,b,b,b⟩:=⟨⟨hlow,hlow,hlow⟩,hb _ hlow,hb _ hlow⟩;have l0:TLe us ⟨0,0,b,b,b⟩ ⟨0,0,b,b,b⟩:=⟨rfl,rfl,hb _ hlow,hb _ hlow,hb _ hlow⟩
 match ts,us',hT,hn with
 | [t],[u],.cons ⟨h1,h2,h3⟩ .nil,_=>
  obtain⟨k,r,er,g,hM,hg⟩:=m126_1 n h hlow hend p h2.2.1;have a1:=hg t _ rfl rfl h2.1 h2.2.2 (hsl [t]);have a2:=hg u _ h1.1.symm h1.2.1.symm h3.1 h3.2.2 (hsl [u]);exact⟨k,r,er,_,_,by unfold RDl;rw[a1,ruV_R],by unfold RDl;rw[a2,ruV_R],hM _ _ _ _ (pf h hlow hb (tg_gd hl hb h2) g0 (tg_gd hl hb h3) g0 h1 l0)⟩
 | [t,t2],[u,u2],.cons ⟨h1,h2,h3⟩ (.cons ⟨i1,i2,i3⟩ .nil),_=>
  obtain⟨k,r,er,g,hM,hg⟩:=m126_2 n h hlow hend p h2.2.1 i2.2.1;have a1:=hg t t2 _ rfl rfl rfl rfl h2.1 i2.1 h2.2.2 i2.2.2 (hsl [t,t2]);have a2:=hg u u2 _ h1.1.symm h1.2.1.symm i1.1.symm i1.2.1.symm h3.1 i3.1 h3.2.2 i3.2.2 (hsl [u,u2])
  exact⟨k,r,er,_,_,by unfold RDl;rw[a1,ruV_R],by unfold RDl;rw[a2,ruV_R],hM _ _ _ _ (pf h hlow hb (tg_gd hl hb h2) (tg_gd hl hb i2) (tg_gd hl hb h3) (tg_gd hl hb i3) h1 i1)⟩
def SL(us:List Nat)(p q:Int×Int):Prop:=p.1=q.1∧∃k l:Nat,p.2=k∧q.2=l∧Up us k l
theorem posM_rel{us:List Nat}(x:Int):∀{l m:List (Int×Int)} (n:Nat),kF (SL us) l m→(qZ l x n=none∧qZ m x n=none)∨∃i,∃k o:Nat,qZ l x n=some (i,(k:Int))∧qZ m x n=some (i,(o:Int))∧Up us k o
 | _,_,_,.nil=>.inl ⟨rfl,rfl⟩
 | p::l,q::m,n,.cons h h'=>by
  rw[qZ,qZ];obtain⟨h1,k,o,h2,h3,h4⟩:=h;by_cases e:x=p.1
  ·rw[aH e,aH (by rw[e,h1])]
   exact .inr ⟨n,k,o,by rw[h2],by rw[h3],h4⟩
  ·rw[aD e,aD (by rw[←h1];exact e)]
   exact posM_rel x (n+1) h'
theorem setM_rel{us:List Nat}{k o:Nat}(hu:Up us k o):∀{l m:List (Int×Int)} (i:Nat),kF (SL us) l m→kF (SL us) (setM l i (k:Int)) (setM m i (o:Int))
 | _,_,i,.nil=>by cases i<;>exact .nil
 | p::l,q::m,0,.cons h h'=>.cons ⟨h.1,k,o,rfl,rfl,hu⟩ h'
 | p::l,q::m,i+1,.cons h h'=>.cons h (setM_rel hu i h')
theorem all2_app{α:Type}{T:α→α→Prop}{a b:α}(h:T a b):∀{l m:List α},kF T l m→kF T (l++[a]) (m++[b])
 | _,_,.nil=>.cons h .nil
 | _,_,.cons h1 h2=>.cons h1 (all2_app h h2)
theorem mkL_rel{ss:List (List UInt8)}{us:List Nat}{d e:D}(h:Lt ss us d e){l m:List (Int×Int)}(hl:kF (SL us) l m)(x:Int){k o:Nat}(hu:Up us k o):kF (SL us) (mkL us l x k) (mkL us m x o):=by
 unfold mkL;rcases posM_rel x 0 hl with⟨h1,h2⟩|⟨i,a,b,h1,h2,h3⟩
 ·rw[h1,h2];exact all2_app ⟨rfl,k,o,rfl,rfl,hu⟩ hl
 ·rw[h1,h2];simp only[cU];exact setM_rel (hu.j h h3) i hl
theorem insP_rel{us:List Nat}{x y:Int×Int}(hx:SL us x y):∀{l m:List (Int×Int)},kF (SL us) l m→kF (SL us) (insP x l) (insP y m)
 | _,_,.nil=>.cons hx .nil
 | p::l,q::m,.cons h h'=>by
  rw[insP,insP,←hx.1,←h.1];split
  ·exact .cons hx (.cons h h')
  ·exact .cons h (insP_rel hx h')
theorem sortP_rel{us:List Nat}:∀{l m:List (Int×Int)},kF (SL us) l m→kF (SL us) (fI l) (fI m)
 | _,_,.nil=>.nil
 | _,_,.cons h h'=>insP_rel h (sortP_rel h')
def SU(us:List Nat)(s t:Lk):Prop:=s.lk=t.lk∧Up us s.ec t.ec∧kF (SL us) s.lm t.lm
theorem grow_rel(n:Nat){ss:List (List UInt8)}{us:List Nat}{low pc:Nat}{d e:D}(h:EOk ⟨us,low,pc,RDl n d e⟩ ss d e):Rel2 ⟨us,low,pc,RDl n d e⟩ ⟨us,low,pc,RDl n d e⟩ (TU us) (SU us) (SU us) where
 tick s t:=by rintro⟨h1,h2,h3⟩;exact⟨h1,by show s.lk+1=t.lk+1;rw[h1],h2,h3⟩
 num k r hk hr:=by
  have hg:TG us ⟨k,r,low,low,low⟩:=h.tg hk hr;exact⟨⟨rfl,rfl,le_refl h.lt h.ll,le_refl h.lt h.ll,le_refl h.lt h.ll⟩,hg,hg⟩
 mark s t x:=by
  rintro⟨h1,h2,h3⟩;exact⟨h1,h2,mkL_rel h.lt h3 x ((Up.self h.lt h.pc).j h.lt h2)⟩
 prim x ts us' s t p:=by
  intro hT hl;rintro⟨h1,h2,h3⟩ hp;obtain⟨k,r,er,g,g',e1,e2,q1,q2,q3,q4,q5,q6,q7⟩:=rd_pair n h.lt h.ll h.low h.lb x.prim hT hl;unfold uV at hp ⊢;have f1:(⟨us,low,pc,RDl n d e⟩:LEn).R x.prim ts=ruT low k r er g:=e1;have f2:(⟨us,low,pc,RDl n d e⟩:LEn).R x.prim us'=ruT low k r er g':=e2;have hlow:gZ (⟨us,low,pc,RDl n d e⟩:LEn).us=(low:Nat):=h.low;rw[f1,hlow]at hp;rw[f2,hlow];by_cases e0:er=0
  case neg=>
   have:(ruT low k r er g).2.2.2=er:=by unfold ruT;rw[aD e0]
   rw[this,aH e0]at hp;cases hp
  subst e0;have t1:ruT low k r 0 g=(tl ⟨k,r,if r≤0 then low else g.1,if r≤1 then low else g.2.1,g.2.2.1⟩,((g.2.2.2.1:Nat):Int),((g.2.2.2.2:Nat):Int),(0:Int)):=aH rfl
  have t2:ruT low k r 0 g'=(tl ⟨k,r,if r≤0 then low else g'.1,if r≤1 then low else g'.2.1,g'.2.2.1⟩,((g'.2.2.2.1:Nat):Int),((g'.2.2.2.2:Nat):Int),(0:Int)):=aH rfl
  have ll:=Up.self h.lt h.ll;have ux:Up us (if r≤0 then low else g.1) (if r≤0 then low else g'.1):=by split;exact ll;exact q1
  have uy:Up us (if r≤1 then low else g.2.1) (if r≤1 then low else g'.2.1):=by split;exact ll;exact q2
  obtain⟨X,hX⟩:∃X,X=(if r≤0 then low else g.1):=⟨_,rfl⟩
  obtain⟨Y,hY⟩:∃Y,Y=(if r≤1 then low else g.2.1):=⟨_,rfl⟩
  obtain⟨X',hX'⟩:∃X,X=(if r≤0 then low else g'.1):=⟨_,rfl⟩
  obtain⟨Y',hY'⟩:∃Y,Y=(if r≤1 then low else g'.2.1):=⟨_,rfl⟩
  rw[←hX,←hY]at t1;rw[←hX',←hY']at t2;rw[←hX,←hX']at ux;rw[←hY,←hY']at uy;rw[t1,aD (by simp)]at hp
  rw[t2,aD (by simp)]
  simp only at hp ⊢;split at hp
  ·cases hp
  rename_i hE;have hE:=Decidable.not_not.1 hE;have hE':tyE us (low:Nat) (tl ⟨k,r,X',Y',g'.2.2.1⟩)=0:=by
   have hE2:tyE us (low:Nat) (tl ⟨k,r,X,Y,g.2.2.1⟩)=0:=hE;rw[tyE_iff]at hE2 ⊢;obtain⟨a1,a2,a3,a4,a5,a6,a7⟩:=hE2;simp only at a1 a2 a3 a4 a5 a6 a7 ⊢;refine⟨a1,a2,⟨ux.2.1,uy.2.1,q3.2.1⟩,fun e=>by rw[hX',aH (by omega)],fun e=>by rw[hY',aH e],fun e=>?_,fun e=>?_⟩
   ·have:=a6 e;rw[hX,aD (by omega)]at this
    rw[hX',aD (by omega)]
    exact q6 this
   ·have:=a7 e;rw[hY,aD (by omega)]at this
    rw[hY',aD (by omega)]
    exact q7 this
  rw[aD (fun hh=>hh hE')]
  cases hp;refine⟨_,rfl,⟨?_,?_,?_⟩,h1,?_,h3⟩
  ·rw[toT_tl,toT_tl];exact⟨rfl,rfl,ux.2.2,uy.2.2,q3.2.2⟩
  ·exact(sC (by rw[h.low];exact hE)).2
  ·exact(sC (by rw[h.low];exact hE')).2
  ·show Up us (afN us s.ec (g.2.2.2.1:Int).toNat (g.2.2.2.2:Int).toNat) (afN us t.ec (g'.2.2.2.1:Int).toNat (g'.2.2.2.2:Int).toNat);simp only[cU];exact(h2.j h.lt q4).j h.lt q5
theorem latD_cases(n:Nat)(u:Nat→Nat):rY n u=e2 0 0∨∃a:Int,rY n u=e2 a 4:=by
 unfold rY;rcases eR (xG n u) (e2 0 0) n 0 with⟨_,h⟩|⟨m,r,_,h2,h3,_,h5⟩
 ·exact .inl h
 ·rw[h5];unfold xG at h3;cases hb:latB n u m<;>rw[hb]at h3
  ·cases h3;exact .inr ⟨m,rfl⟩
  ·cases h3
theorem CHK_cases(ss:List (List UInt8))(us:List Nat):(CHK ss us=e2 0 0∧us.length=ss.length∧1≤ss.length∧ss.length≤8∧(∀a,a<ss.length→kP ss.length (uM us) a=true))∨∃a er:Int,CHK ss us=e2 a er∧er≠0:=by
 unfold CHK;rcases lY ss with⟨h1,h2⟩|⟨h1,a,er,h2,h3⟩
 ·rw[aH h1];have hn:=kY.1 h1;by_cases hl:us.length=ss.length
  ·rw[aH hl];unfold ordD;rcases eR (pH ss.length (uM us)) (rY ss.length (uM us)) ss.length 0 with⟨hb,h⟩|⟨m,r,_,h2,h3,_,h5⟩
   ·rw[h];rcases latD_cases ss.length (uM us) with h'|⟨a,h'⟩
    ·refine .inl ⟨h',hl,hn.1.1,hn.1.2,fun a ha=>?_⟩
     have:=hb a (by omega) (by omega)
     unfold pH at this;cases ho:kP ss.length (uM us) a
     ·rw[ho]at this;cases this
     ·rfl
    ·exact .inr ⟨a,4,h',by decide⟩
   ·rw[h5];unfold pH at h3;cases hb:kP ss.length (uM us) m<;>rw[hb]at h3
    ·cases h3;exact .inr ⟨_,_,rfl,by decide⟩
    ·cases h3
  ·rw[aD hl];exact .inr ⟨_,_,rfl,by decide⟩
 ·rw[aD (by rw[h1];decide)];exact .inr ⟨a,er,h2,h3⟩
structure FdIn (f:Fd):Prop where
 p:Sl 1 iC f.ps f.pd
 b:Sl 7 bU f.body f.bd
structure FdSm (f:Fd):Prop where
 nm:f.name.length≤100
 pl:f.ps.length≤4
 b:NotLong f.body
 pn:∀s∈f.ps,s.length≤100
def NotLarge(ss:List (List UInt8))(us:List Nat)(vs:List Vr)(fs:List Fd):Prop:=vS ss us=false∧vs.length≤40∧fs.length≤20∧(∀x∈vs,x.name.length≤100)∧∀x∈fs,FdSm x
def Out10(n:Nat)(ss:List (List UInt8))(us:List Nat)(vs:List Vr)(fs:List Fd)(r:R):Prop:=∃b,pout (zbody (dfn n MM) A10 r)=some (.bool b,true)∧(b=false→NotLarge ss us vs fs)
theorem B10_eq:B10=(.seq (.reg none [⟨(some 1),(.new 30 (.t 0)),none⟩,⟨(some 2),(.mv (.c (.bool false))),none⟩]) (.seq (.seq (.reg none [⟨(some 3),(.mv (.c (.int .i64 0))),none⟩]) (.block 0 (.loop (.seq (.seq (.reg none [⟨(some 7),(.mv (.t 3)),none⟩,⟨(some 8),(.fa 2 (.t 1)),none⟩,⟨(some 9),(.ld none (.t 8)),none⟩,⟨(some 10),(.len false (.t 9)),none⟩,⟨(some 11),(.bin .lss (.t 7) (.t 10)),none⟩,⟨(some 12),(.mv (.t 11)),none⟩,⟨(some 13),(.mv (.t 3)),(some (12,true))⟩,⟨(some 14),(.bin .lss (.t 13) (.c (.int .i64 50))),(some (12,true))⟩,⟨(some 15),(.pick (.t 12) (.t 14) (.c (.bool false))),none⟩]) (.cond (.t 15) .skip (.exit 0))) (.seq (.block 2 (.seq (.reg none [⟨(some 18),(.fa 2 (.t 1)),none⟩,⟨(some 19),(.ld none (.t 18)),none⟩,⟨(some 20),(.mv (.t 3)),none⟩,⟨(some 21),(.iaS 6 (.t 19) (.t 20)),none⟩,⟨(some 22),(.fa 0 (.t 21)),none⟩,⟨(some 23),(.ld none (.t 22)),none⟩,⟨(some 24),(.len true (.t 23)),none⟩,⟨(some 25),(.bin .gtr (.t 24) (.c (.int .i64 100))),none⟩]) (.cond (.t 25) (.seq (.reg none [⟨(some 2),(.mv (.c (.bool true))),none⟩]) .ret) .skip))) (.reg none [⟨(some 16),(.mv (.t 3)),none⟩,⟨(some 17),(.bin .add (.t 16) (.c (.int .i64 1))),none⟩,⟨(some 3),(.mv (.t 17)),none⟩])))))) W10)):=rfl
theorem out10{n:Nat}{ss:List (List UInt8)}{us:List Nat}{vs:List Vr}{fs:List Fd}{t:Tm}{s:St}{c:Nat}(h:tget t 2 = .bool true):Out10 n ss us vs fs (.ok .ret ⟨t,s,c,[],none⟩):=
 ⟨true,by simp only[z2,seval,A10,h];rfl,nofun⟩
theorem Z10_ok(n:Nat){ss:List (List UInt8)}{us:List Nat}{d e v f:D}{vs:List Vr}{fs:List Fd}(hd:Sl 1 iC ss d)(he:Sl 1 u8C us e)(hv:Sl 6 vrC vs v)(hf:Sl 3 fdC fs f){t:Tm}{s:St}{c:Nat}(s0:sget s 0=some (.fix 30 [d,e,v,f]))(q1:tget t 1 = .ptr 0 0)
  (hvn:vs.length≤50→∀x∈vs,x.name.length≤100) (hfn:fs.length≤30→∀x∈fs,FdSm x):Out10 (n+1) ss us vs fs (zC Z10 (cxn (n+1)) (fn (n+1) 4096) KK ⟨t,s,c,[],none⟩):=by
 simp only[Z10,Ab.abq];have h28:=c28 n hd he;have htk:dE [d,e,v,f] 0 (some 2)=some (.agg [d,e]):=rfl;cases hL:vS ss us
 ·rw[hL]at h28;by_cases h40:40<vs.length
  ·have k1:decide ((40:Int)<(vs.length:Nat))=true:=dT (by omega)
   simp only[z2,seval,s0,q1,htk,aF (f:=28) rfl,aQ,hd.fz,he.fz,h28,hv.len,k1,nb];exact out10 (by simp[aE])
  ·have k1:decide ((40:Int)<(vs.length:Nat))=false:=dF (by omega)
   by_cases h20:20<fs.length
   ·have k2:decide ((20:Int)<(fs.length:Nat))=true:=dT (by omega)
    simp only[z2,seval,s0,q1,htk,aF (f:=28) rfl,aQ,hd.fz,he.fz,h28,hv.len,hf.len,k1,k2,nb];exact out10 (by simp[aE])
   ·have k2:decide ((20:Int)<(fs.length:Nat))=false:=dF (by omega)
    simp only[z2,seval,s0,q1,htk,aF (f:=28) rfl,aQ,hd.fz,he.fz,h28,hv.len,hf.len,k1,k2,nb];exact⟨false,by simp only[z2,seval,A10];rfl,fun _=>⟨hL,by omega,by omega,hvn (by omega),hfn (by omega)⟩⟩
 ·rw[hL]at h28;simp only[z2,seval,s0,q1,htk,aF (f:=28) rfl,aQ,hd.fz,he.fz,h28,nb];exact out10 (by simp[aE])
theorem W10_ok(n:Nat){ss:List (List UInt8)}{us:List Nat}{d e v f:D}{vs:List Vr}{fs:List Fd}(hd:Sl 1 iC ss d)(he:Sl 1 u8C us e)(hv:Sl 6 vrC vs v)(hf:Sl 3 fdC fs f)(hfs:∀x∈fs,FdIn x){t:Tm}{s:St}{c:Nat}(s0:sget s 0=some (.fix 30 [d,e,v,f]))(hc:1≤c)(q1:tget t 1 = .ptr 0 0)
  (hvn:vs.length≤50→∀x∈vs,x.name.length≤100):Out10 (n+1) ss us vs fs (zC W10 (cxn (n+1)) (fn (n+1) 4096) KK ⟨t,s,c,[],none⟩):=by
 simp only[W10,Ab.abq];simp only[z2,seval];generalize hz:zloop KK _ _=rl;have hN:min fs.length 30≤30:=Nat.min_le_right _ _;refine zfor rl hz (min fs.length 30) (fQ (by omega)) (by omega) (fun i t s c=>sget s 0=some (.fix 30 [d,e,v,f])∧1≤c∧tget t 1 = .ptr 0 0∧∀j,j<i→∀h:j<fs.length,FdSm fs[j]) (by simp[aE]) ⟨s0,hc,by simp[aE,q1],nofun⟩ ?_
 clear hz s0 hc q1;rintro i t s c hi ⟨s0,hc,q1,hn⟩ q4;by_cases hlt:i<fs.length
 ·by_cases h30:i<30
  ·have k1:decide ((i:Int)<30)=true:=dT (by omega)
   have hrow:=hf.row hlt;have hx:=hfs _ (cB hlt);have hpn:=hx.p.nag;have hbn:=hx.b.nag;have f0:(0=c)=False:=aL (by omega)
   have htk:∀a b c:D,dE [a,b,c] 0 (some 3)=some (.agg [a,b,c]):=fun _ _ _=>rfl
   obtain⟨b,h11,hb⟩:=c11 n hx.b;by_cases e1:100<fs[i].name.length
   ·have k2:decide ((100:Int)<(fs[i].name.length:Nat))=true:=dT (by omega)
    simp only[z2,seval,s0,f0,q1,q4,hf.len,eD hlt,k1,hf.ia hlt,hrow,fdC,htk,hpn,hbn,k2,nb];exact out10 (by simp[aE])
   ·have k2:decide ((100:Int)<(fs[i].name.length:Nat))=false:=dF (by omega)
    by_cases e2:4<fs[i].ps.length
    ·have k3:decide ((4:Int)<(fs[i].ps.length:Nat))=true:=dT (by omega)
     simp only[z2,seval,s0,f0,q1,q4,hf.len,eD hlt,k1,hf.ia hlt,hrow,fdC,htk,hpn,hbn,k2,hx.p.len,k3,nb];exact out10 (by simp[aE])
    ·have k3:decide ((4:Int)<(fs[i].ps.length:Nat))=false:=dF (by omega)
     cases b
     ·have hB:=hb rfl;have hp:=hx.p;have hlen:=hp.len;simp only[z2,seval,s0,f0,q1,q4,hf.len,eD hlt,k1,hf.ia hlt,hrow,fdC,htk,hpn,hbn,k2,hlen,k3,aF (f:=11) rfl,aQ,hx.b.fz,h11,nb];generalize hS:sset (sadd s c _) c _=S;generalize hz:zloop KK _ _=rl2;have sc:sget S c=some (.fix 79 [.str fs[i].name,fs[i].pd,fs[i].bd]):=by rw[←hS];simp[aE]
      have s0':sget S 0=some (.fix 30 [d,e,v,f]):=by rw[←hS];simp only[aE,f0,eV];exact s0
      refine zfor rl2 hz fs[i].ps.length (fQ (by omega)) (by omega) (fun k t s' c'=>s'=S∧c'=c+1∧tget t 1 = .ptr 0 0∧tget t 4 = .int .i64 (i:Nat)∧tget t 5 = .ptr c 0∧∀j,j<k→∀h:j<fs[i].ps.length,fs[i].ps[j].length≤100) (by simp[aE]) ⟨rfl,rfl,by simp[aE,q1],by simp[aE,q4],by simp[aE],nofun⟩ ?_
      clear hz q4 hS;rintro k t s' c' hk ⟨rfl,rfl,q1,q4,q5,hn2⟩ q6;by_cases hkl:k<fs[i].ps.length
      ·by_cases e3:100<fs[i].ps[k].length
       ·have k4:decide ((100:Int)<(fs[i].ps[k].length:Nat))=true:=dT (by omega)
        simp only[z2,seval,sc,q1,q4,q5,q6,hlen,eD hkl,hp.ia1 hkl,hp.at1 hkl,iC,k4,nb];exact out10 (by simp[aE])
       ·have k4:decide ((100:Int)<(fs[i].ps[k].length:Nat))=false:=dF (by omega)
        simp only[z2,seval,sc,q1,q4,q5,q6,hlen,eD hkl,hp.ia1 hkl,hp.at1 hkl,iC,k4,nb];refine⟨hkl,trivial,trivial,trivial,trivial,trivial,trivial,trivial,trivial,fun j hj h=>?_⟩
        rcases cY.1 hj with h'|rfl
        ·exact hn2 j h' h
        ·omega
      ·have e1':k=fs[i].ps.length:=by omega
       subst e1';simp only[z2,seval,sc,s0',q1,q4,q5,q6,hlen,kB (aJ fs[i].ps.length),nb];refine⟨by omega,trivial,trivial,trivial,trivial,by first|trivial|omega,trivial,fun j hj h=>?_⟩
       rcases cY.1 hj with h'|rfl
       ·exact hn j h' h
       ·exact⟨by omega,by omega,hB,fun y hy=>by
         obtain⟨m,hm,rfl⟩:=eO hy;exact hn2 m hm hm⟩
     ·simp only[z2,seval,s0,f0,q1,q4,hf.len,eD hlt,k1,hf.ia hlt,hrow,fdC,htk,hpn,hbn,k2,hx.p.len,k3,aF (f:=11) rfl,aQ,hx.b.fz,h11,nb];exact out10 (by simp[aE])
  ·have k1:decide ((i:Int)<30)=false:=dF (by omega)
   simp only[z2,seval,s0,q1,q4,hf.len,eD hlt,k1,nb];exact Z10_ok n hd he hv hf s0 (by simp[aE,q1]) hvn fun h=>absurd h (by omega)
 ·have e1:i=fs.length:=by omega
  subst e1;simp only[z2,seval,s0,q1,q4,hf.len,kB (aJ fs.length),nb];exact Z10_ok n hd he hv hf s0 (by simp[aE,q1]) hvn fun h x hx=>by
   obtain⟨j,hj,rfl⟩:=eO hx;exact hn j hj hj
theorem c10(n:Nat){ss:List (List UInt8)}{us:List Nat}{d e v f:D}{vs:List Vr}{fs:List Fd}(hd:Sl 1 iC ss d)(he:Sl 1 u8C us e)(hv:Sl 6 vrC vs v)(hf:Sl 3 fdC fs f)(hfs:∀x∈fs,FdIn x):∃b,cl (n+1) 10 [.agg [d,e,v,f]]=some (.bool b,true)∧(b=false→NotLarge ss us vs fs):=by
 rw[cK (A:=A10) rfl (n+1) _ rfl,show A10.body=B10 from rfl]
 show Out10 (n+1) ss us vs fs _;rw[B10_eq];simp only[z2,seval,hd.nag,he.nag,hv.nag,hf.nag];generalize hz:zloop KK _ _=rl;have hN:min vs.length 50≤50:=Nat.min_le_right _ _
 refine zfor rl hz (min vs.length 50) (fQ (by omega)) (by omega) (fun i t s c=>sget s 0=some (.fix 30 [d,e,v,f])∧1≤c∧tget t 1 = .ptr 0 0∧∀j,j<i→∀h:j<vs.length,vs[j].name.length≤100) (by simp[aE]) ⟨by simp[aE],by decide,by simp[aE],nofun⟩ ?_
 clear hz;rintro i t s c hi ⟨s0,hc,q1,hn⟩ q3;by_cases hgo:i<vs.length∧i<50
 ·obtain⟨hlt,h50⟩:=hgo;have k1:decide ((i:Int)<50)=true:=dT (by omega)
  have g0:=hv.cell hlt (show 0<6 by omega)
  by_cases e1:100<vs[i].name.length
  ·have k2:decide ((100:Int)<(vs[i].name.length:Nat))=true:=dT (by omega)
   simp only[z2,seval,s0,q1,q3,hv.len,eD hlt,k1,hv.ia hlt,g0,vrC,k2,nb];exact out10 (by simp[aE])
  ·have k2:decide ((100:Int)<(vs[i].name.length:Nat))=false:=dF (by omega)
   simp only[z2,seval,s0,q1,q3,hv.len,eD hlt,k1,hv.ia hlt,g0,vrC,k2,nb];refine⟨by omega,trivial,trivial,trivial,trivial,hc,trivial,fun j hj h=>?_⟩
   rcases cY.1 hj with h'|rfl
   ·exact hn j h' h
   ·omega
 ·have hvn:vs.length≤50→∀x∈vs,x.name.length≤100:=fun h x hx=>by
   obtain⟨j,hj,rfl⟩:=eO hx;exact hn j (by omega) hj
  by_cases hlt:i<vs.length
  ·have k1:decide ((i:Int)<50)=false:=dF (by omega)
   simp only[z2,seval,s0,q1,q3,hv.len,eD hlt,k1,nb];exact W10_ok n hd he hv hf hfs s0 hc (by simp[aE,q1]) hvn
  ·simp only[z2,seval,s0,q1,q3,hv.len,kB (Nat.le_of_not_lt hlt),nb];exact W10_ok n hd he hv hf hfs s0 hc (by simp[aE,q1]) hvn
end
end Zv
namespace Zv
open Go Ab
noncomputable section
theorem k12(n j:Nat)(s:St)(c:Nat):fn n (j+1) (.fn 12) [] s c = .ok (.ret (.bool true)) s c:=fn_known (f:=12) rfl rfl rfl rfl rfl n j c
theorem sites_sl(lm:List (Int×Int)):Sl 2 siteC (fI lm) (.sl false lm.length (en2 (fI lm))):=by
 refine⟨fun r hr=>by obtain⟨k,_,rfl⟩:=cQ.1 hr;rfl,.inr ⟨false,?_⟩⟩
 rw[fA,(jI lm).length_eq,←vL];rfl
structure In22 (ss:List (List UInt8)) (us:List Nat) (d e v f dx:D) (vs:List Vr) (fs:List Fd) (x:List Nd):Prop where
 hd:Sl 1 iC ss d
 he:Sl 1 u8C us e
 hu:iM us
 hs:oS ss
 hE:tR vs fs v f
 hx:Sl 7 bU x dx
 hxl:x.length<4294967296
 hxn:x.length≤400→NdOk x
theorem in22{ss:List (List UInt8)}{us:List Nat}{d e v f dx:D}{vs:List Vr}{fs:List Fd}{x:List Nd}(hd:Sl 1 iC ss d)(he:Sl 1 u8C us e)(hu:iM us)(hv:Sl 6 vrC vs v)(hf:Sl 3 fdC fs f)(hfs:∀x∈fs,FdIn x)(hx:Sl 7 bU x dx)(h:NotLarge ss us vs fs)(hl:NotLong x):In22 ss us d e v f dx vs fs x:=by
 obtain⟨hL,h40,h20,hvn,hfn⟩:=h;refine⟨hd,he,hu,?_,⟨hv,hf,by omega,by omega,fun x hx=>by have:=hvn x hx;omega,fun x hx=>?_⟩,hx,by have:=hl.1;omega,fun h y hy=>by have:=hl.2 h y hy;omega⟩
 ·unfold vS at hL;simp only[Bool.or_eq_false_iff,bX,List.any_eq_false,List.mem_range]at hL;obtain⟨h1,h2,_⟩:=hL;intro s hs;obtain⟨i,hi,rfl⟩:=List.mem_iff_getElem.1 hs;have:=h1 i (by omega)
  rw[jX hi,cI]at this;omega
 ·have h:=hfn x hx;have hi:=hfs x hx;have hb:=h.b;exact⟨by have:=h.nm;omega,hi.p,hi.b,fun s hs=>by have:=h.pn s hs;omega,by have:=h.pl;omega,by have:=hb.1;omega,fun hl y hy=>by have:=hb.2 hl y hy;omega⟩
theorem look_cases(n:Nat){ss:List (List UInt8)}{us:List Nat}{d e v f dx:D}{vs:List Vr}{fs:List Fd}{x:List Nd}(h:In22 ss us d e v f dx vs fs x)(pc ec:Int):
  (∃a er:Int,er≠0∧cl (n+13) 13 [.agg [d,e,v,f],.int .i64 pc,.int .i64 ec,dx]=some (.tup [.agg zl0,.int .i64 a,.int .i64 er],true)) ∨
  ∃(low p q:Nat) (r:Tl×Lk),pc=p∧ec=q∧EOk ⟨us,low,p,RDl n d e⟩ ss d e∧q<us.length∧EnvG us vs fs∧envE us vs fs=0∧XOk x∧uL ⟨us,low,p,RDl n d e⟩ (fs.length+1) fs vs x ⟨q,0,[]⟩ = .ok r∧cl (n+13) 13 [.agg [d,e,v,f],.int .i64 pc,.int .i64 ec,dx]=some (xB r,true):=by
 rcases CHK_cases ss us with⟨hC,hul,h1,h8,_⟩|⟨x',er,hC,hne⟩
 case inr=>exact .inl ⟨0,er,hne,c13e (n+12) pc ec h.hd h.he h.hE (c22e n h.hd h.he h.hu h.hs hC hne h.hE) hne⟩
 have hL:Lt ss us d e:=⟨h.hd,h.he,h.hu,h.hs,hC,hul,h1,h8⟩;have h22:=c22 n h.hd h.he h.hu h.hs hC h.hE;by_cases h0:envE us vs fs=0
 case neg=>exact .inl ⟨0,_,h0,c13e (n+12) pc ec h.hd h.he h.hE h22 h0⟩
 obtain⟨low,hl1,hl2,_,hl4⟩:=oN hC;rw[←hul]at hl1 hl4;have hc:=c13 n pc ec hL h.hE h0 hl2 hl1 hl4 h.hx h.hxl h.hxn;have hG:=env_ok h0;unfold lookD at hc;by_cases hr:¬((0≤pc∧pc<us.length)∧0≤ec∧ec<us.length)
 ·rw[aH hr]at hc;exact .inl ⟨0,7,by decide,hc⟩
 rw[aD hr]at hc;by_cases hx0:exE x≠0
 ·rw[aH hx0]at hc;exact .inl ⟨0,_,hx0,hc⟩
 rw[aD hx0]at hc;obtain⟨⟨p1,p2⟩,p3,p4⟩:=Decidable.not_not.1 hr;have hXO:=exE_ok (Decidable.not_not.1 hx0);have hE:EOk ⟨us,low,pc.toNat,RDl n d e⟩ ss d e:=⟨hL,hl2,hl1,hl4,by show pc.toNat<us.length;omega,fun p ts hl hg h0=>by
  obtain⟨t,w,c,er,e1,e2,e3⟩:=rd_ok n hL p hl hg;have e1':(⟨us,low,pc.toNat,RDl n d e⟩:LEn).R p ts=(t,w,c,er):=e1;rw[e1']at h0 ⊢;exact e3 h0⟩
 cases hr2:uL ⟨us,low,pc.toNat,RDl n d e⟩ (fs.length+1) fs vs x ⟨ec.toNat,0,[]⟩ with
 | bad a b=>
  rw[hr2]at hc;exact .inl ⟨a,b,lok_bad hE (fs.length+1) fs (Nat.lt_succ_self _) (fun g hg=>(hG.fb g hg).ex) vs x ⟨ec.toNat,0,[]⟩ hXO.ex hG.vt ⟨by show ec.toNat<us.length;omega,nofun,dK _⟩ a b hr2,hc⟩
 | ok r=>
  rw[hr2]at hc;exact .inr ⟨low,pc.toNat,ec.toNat,r,by omega,by omega,hE,by omega,hG,h0,hXO,hr2,hc⟩
theorem eqTs_c{off:Nat}{sz:Option Nat}{t:ET}{r:List (Nat×Option Nat×ET)}{xs:List D}{a:D}(h1:dE xs off sz=some a)(h3:eqT t a a=some true):uN ((off,sz,t)::r) xs xs=uN r xs xs:=by
 rw[uN,h1];simp only[h3];rfl
theorem eqT_i(a:Int):eqT .int (.int .i64 a) (.int .i64 a)=some true:=by
 rw[eqT,aH rfl,show(a==a)=true by simp]
theorem cmp5(a b c d e:Int):pN (.ty (.parts [(0,none,.int),(1,none,.int),(2,some 2,.parts [(0,none,.int),(1,none,.int)]),(4,none,.int)])) (.agg [.int .i64 a,.int .i64 b,.int .i64 c,.int .i64 d,.int .i64 e]) (.agg [.int .i64 a,.int .i64 b,.int .i64 c,.int .i64 d,.int .i64 e])=some true:=by
 rw[pN,eqT];rw[eqTs_c (a:=.int .i64 a) rfl (eqT_i a),eqTs_c (a:=.int .i64 b) rfl (eqT_i b),eqTs_c (a:=.agg [.int .i64 c,.int .i64 d]) rfl,eqTs_c (a:=.int .i64 e) rfl (eqT_i e)]
 ·rw[uN]
 ·rw[eqT,eqTs_c (a:=.int .i64 c) rfl (eqT_i c),eqTs_c (a:=.int .i64 d) rfl (eqT_i d),uN]
structure IB (d e v f dx ds:D) (p q:Nat) (J1 J0:Nat) (k r a b c' ec lk:Int) (t:Tm) (s:St) (c:Nat):Prop where
 s0:sget s 0=some (.fix 30 [d,e,v,f])
 s1:sget s 1=some (.fix 31 [.int .i64 (p:Nat),.int .i64 (q:Nat)])
 s2:sget s 2=some (.fix 40 [.int .i64 k,.int .i64 r,.int .i64 a,.int .i64 b,.int .i64 c',.int .i64 ec,ds,.int .i64 lk])
 fr:mF s c
 hc:3≤c
 t2:tget t 2=dx
 t3:tget t 3 = .ptr 0 0
 t4:tget t 4 = .ptr 1 0
 t7:tget t 7 = .ptr 2 0
 t10:tget t 10 = .int .i64 (J1:Nat)
 t11:tget t 11 = .int .i64 (J0:Nat)
theorem IB.tm{d e v f dx ds:D}{p q:Nat}{J1 J0:Nat}{k r a b c' ec lk:Int}{t t':Tm}{s:St}{c c2:Nat}(h:IB d e v f dx ds p q J1 J0 k r a b c' ec lk t s c)(hc:c≤c2)(ht:∀i,i=2∨i=3∨i=4∨i=7∨i=10∨i=11→tget t' i=tget t i):IB d e v f dx ds p q J1 J0 k r a b c' ec lk t' s c2:=
 ⟨h.s0,h.s1,h.s2,fun m hm=>h.fr m (by omega),by have:=h.hc;omega,by rw[ht 2 (by simp),h.t2],by rw[ht 3 (by simp),h.t3],by rw[ht 4 (by simp),h.t4],by rw[ht 7 (by simp),h.t7],by rw[ht 10 (by simp),h.t10],by rw[ht 11 (by simp),h.t11]⟩
end
end Zv
namespace Zv
open Go
noncomputable section
theorem cf_fw(cx:Cx)(k:CL)(dst:Option Nat)(x:AS)(f:Nat)(a w:D):kN cx k dst x (.fn (.func f) [w] []) [a]=back dst x (k (.fn f) [w,a] x.s x.c):=rfl
section
variable (n:Nat) {ss:List (List UInt8)} {us:List Nat} {d e:D} (h:Lt ss us d e)
include h
theorem c117(lw:Int){a b:Nat}(ha:a<us.length)(hb:b<us.length):cl (n+1) 117 [.agg [d,e,.int .i64 lw],.int .i64 (a:Nat),.int .i64 (b:Nat)]=some (.int .i64 (J us a b:Nat),true):=by
 rw[cK (A:=A117) rfl (n+1) _ rfl,show A117.body=B117 from rfl]
 simp only[B117,Ab.abq];have hx:∀c (hc:c<us.length),us[c]=uM us c:=fun c hc=>(jX hc 0).symm
 have h69:=c69 n h.e (by have:=h.h8;have:=h.l;omega) a b
 rw[(h.j ha hb).1]at h69;simp only[z0,seval,h.d.nag,h.e.nag,h.e.fz,h.e.ia1 ha,h.e.at1 ha,h.e.ia1 hb,h.e.at1 hb,u8C,aT,hx _ ha,hx _ hb,iG (lI h.u a) (lI h.u b),aF (f:=69) rfl,aQ,h69,eG,cX,AOp.kd,zop,tks,cC,dW,A117];rfl
theorem c76(lw:Int){a b:Nat}(ha:a<us.length)(hb:b<us.length):cl (n+2) 76 [.agg [d,e,.int .i64 lw,.int .i64 (b:Nat)],.int .i64 (a:Nat)]=some (.int .i64 (J us a b:Nat),true):=by
 rw[cK (A:=A76) rfl (n+2) _ rfl,show A76.body=B76 from rfl]
 simp only[B76,Ab.abq];have h117:=c117 n h lw ha hb;simp only[z0,seval,h.d.nag,h.e.nag,h.d.fz,h.e.fz,aF (f:=117) rfl,aQ,h117,A76];rfl
def raT(us:List Nat)(b:Nat)(t:Tl):Tl:=⟨t.k,t.r,if 1≤t.r then J us t.x b else t.x,if 2≤t.r then J us t.y b else t.y,J us t.z b⟩
theorem c75(lw:Int){b:Nat}(hb:b<us.length)(t:Tl)(ht:t.ok us.length)(hr:0≤t.r∧t.r≤2):cl (n+3) 75 [.agg (tlC t),.fn (.func 76) [.agg [d,e,.int .i64 lw,.int .i64 (b:Nat)]] []]=some (.agg (tlC (raT us b t)),true):=by
 rw[cK (A:=A75) rfl (n+3) _ rfl,show A75.body=B75 from rfl]
 simp only[B75,Ab.abq];have hx:=c76 n h lw ht.1 hb;have hy:=c76 n h lw ht.2.1 hb;have hz:=c76 n h lw ht.2.2 hb;obtain⟨k,r,x,y,z⟩:=t;simp only at hx hy hz hr;have hr3:r=0∨r=1∨r=2:=by omega
 unfold tlC tyC tl raT;rcases hr3 with rfl|rfl|rfl<;>simp only[z0,seval,seval,h.d.nag,h.e.nag,h.d.fz,h.e.fz,aF (f:=76) rfl,aQ,hx,hy,hz,zun,i20,uQ,cf_fw,nb,dV,dL,show dJ .i64 1=1 from rfl,show dJ .i64 2=2 from rfl,Int.reduceLT,Int.reduceAdd,A75]
 all_goals rfl
theorem of_ok{low:Nat}(hl:gZ us=(low:Nat)):∃f,cl (n+8) 72 [.agg [d,e]]=some (.tup [.agg [d,e,.int .i64 (low:Nat)],.int .i64 0],f):=by
 obtain⟨f,h72⟩:=c72 n h.d h.e h.u h.s h.c h.l h.h1 h.h8;obtain⟨b,_,e1,e2,_⟩:=oN h.c;rw[e2,←e1,hl]at h72;exact⟨f,h72⟩
theorem c34{low:Nat}(hl:gZ us=(low:Nat)){t:Tl}(ht:TG us t){b:Nat}(hb:b<us.length):cl (n+9) 34 [.agg [d,e],.agg (tlC t),.int .i64 (b:Nat)]=some (.tup [.agg (tlC (raT us b t)),.int .i64 0],true):=by
 rw[cK (A:=A34) rfl (n+9) _ rfl,show A34.body=B34 from rfl]
 simp only[B34,Ab.abq];obtain⟨f,h72⟩:=of_ok n h hl;have h73:=c73 (n+7) h.d h.e h.u h.l (by have:=h.h8;have:=h.l;omega) (low:Nat) (tl t)
 have h74:=c74 (n+8) h.d h.e.nag (low:Nat) (b:Nat);have h75:=c75 (n+5) h (low:Nat) hb t ht.1 ⟨by have:=ht.2.1.2;omega,by have:=ht.2.1.2;omega⟩
 have h0:=ht.2.2;rw[hl]at h0;rw[h0]at h73;rw[bD (show(0:Int)≤(b:Nat) by omega),bD (show((b:Nat):Int)<(ss.length:Int) by have:=h.l;omega)]at h74
 generalize raT us b t=t' at *;unfold tlC tyC tl at *;cases f
 all_goals simp only[z0,seval,h.d.nag,h.e.nag,h.d.fz,h.e.fz,aF (f:=72) rfl,aF (f:=73) rfl,aF (f:=74) rfl,aF (f:=75) rfl,aQ,h72,h73,h74,h75,D.pures,D.pure,h.d.pure,h.e.pure,Bool.and_self,Bool.or_true,zun,aV,show decide ((0:Int)≠0)=false from rfl,nb,fL,bW,eX,A34]
 all_goals rfl
theorem c118{low:Nat}(hl:gZ us=(low:Nat)){t u:Tl}(ht:TG us t)(hu:TG us u)(hk:t.k=u.k)(hr:t.r=u.r):∃f,cl (n+9) 118 [.agg [d,e],.agg (tlC t),.agg (tlC u)]=some (.tup [.agg [d,e,.int .i64 (low:Nat)],.int .i64 0],f):=by
 rw[cK (A:=A118) rfl (n+9) _ rfl,show A118.body=B118 from rfl]
 simp only[B118,Ab.abq];obtain⟨f,h72⟩:=of_ok n h hl;have h73:=c73 (n+7) h.d h.e h.u h.l (by have:=h.h8;have:=h.l;omega) (low:Nat) (tl t)
 have h73u:=c73 (n+7) h.d h.e h.u h.l (by have:=h.h8;have:=h.l;omega) (low:Nat) (tl u)
 have h0:=ht.2.2;have h0u:=hu.2.2;rw[hl]at h0 h0u;rw[h0]at h73;rw[h0u]at h73u;have hne:∀i:Int,decide (i≠i)=false:=fun i=>aK (fun h=>h rfl)
 unfold tlC tyC tl at *;rw[←hk,←hr]at h73u ⊢;cases f
 all_goals simp only[z0,seval,h.d.nag,h.e.nag,h.d.fz,h.e.fz,aF (f:=72) rfl,aF (f:=73) rfl,aQ,h72,h73,h73u,D.pures,D.pure,h.d.pure,h.e.pure,Bool.and_self,Bool.or_true,zun,aV,show decide ((0:Int)≠0)=false from rfl,hne,nb,A118]
 all_goals rcases h.d.2 with⟨rfl,_⟩|⟨ex,rfl⟩<;>rcases h.e.2 with⟨rfl,_⟩|⟨ex',rfl⟩<;>exact⟨_,rfl⟩
def joT(us:List Nat)(t u:Tl):Tl:=⟨t.k,t.r,J us t.x u.x,J us t.y u.y,J us t.z u.z⟩
theorem c77{low:Nat}(hl:gZ us=(low:Nat)){t u:Tl}(ht:TG us t)(hu:TG us u)(hk:t.k=u.k)(hr:t.r=u.r):cl (n+10) 77 [.agg [d,e],.agg (tlC t),.agg (tlC u)]=some (.tup [.agg (tlC (joT us t u)),.int .i64 0],true):=by
 rw[cK (A:=A77) rfl (n+10) _ rfl,show A77.body=B77 from rfl]
 simp only[B77,Ab.abq];obtain⟨f,h118⟩:=c118 n h hl ht hu hk hr;have hx:=c117 (n+8) h (low:Nat) ht.1.1 hu.1.1;have hy:=c117 (n+8) h (low:Nat) ht.1.2.1 hu.1.2.1;have hz:=c117 (n+8) h (low:Nat) ht.1.2.2 hu.1.2.2;unfold joT tlC tyC tl at *;cases f
 all_goals simp only[z0,seval,h.d.nag,h.e.nag,h.d.fz,h.e.fz,aF (f:=118) rfl,aF (f:=117) rfl,aQ,h118,hx,hy,hz,D.pures,D.pure,h.d.pure,h.e.pure,Bool.and_self,Bool.or_true,i20,dV,dL,eG,cX,AOp.kd,zop,tks,cC,dW,fL,show decide ((0:Int)≠0)=false from rfl,nb,A77]
 all_goals rfl
theorem c35{low:Nat}(hl:gZ us=(low:Nat)){t u:Tl}(hT:TU us t u):cl (n+11) 35 [.agg [d,e],.agg (tlC t),.agg (tlC u)]=some (.tup [.bool true,.int .i64 0],true):=by
 rw[cK (A:=A35) rfl (n+11) _ rfl,show A35.body=B35 from rfl]
 simp only[B35,Ab.abq];obtain⟨⟨hk,hr,lx,ly,lz⟩,ht,hu⟩:=hT;have h77:=c77 n h hl ht hu hk hr;have hj:∀{a b:Nat},a<us.length→b<us.length→Le us a b→J us a b=b:=fun {a b} ha hb hle=>
  ord_anti (ord_lt h) (h.j ha hb).2 hb (J_le h ha hb hle (le_refl h hb)) (le_J h ha hb).2
 have e:joT us t u=u:=by
  unfold joT;rw[hj ht.1.1 hu.1.1 lx,hj ht.1.2.1 hu.1.2.1 ly,hj ht.1.2.2 hu.1.2.2 lz,hk,hr]
 rw[e]at h77;unfold tlC tyC tl at *;simp only[z0,seval,h.d.nag,h.e.nag,h.d.fz,h.e.fz,aF (f:=77) rfl,aQ,h77,show decide ((0:Int)≠0)=false from rfl,cmp5,A35]
 rfl
end
def bI(bs:List Nat)(n i:Nat):Nat:=bs.getD (i % bs.length) 0 % n
def rsV(us bs:List Nat)(v:Vr)(i:Nat):Vr:=⟨v.name,tl (raT us (bI bs us.length i) (toT v.ty))⟩
def wsL(us bs:List Nat)(vs:List Vr):List Vr:=vs.mapIdx fun i v=>rsV us bs v i
theorem sB{us bs:List Nat}{vs:List Vr}:(wsL us bs vs).length=vs.length:=List.length_mapIdx
theorem ws_at{us bs:List Nat}{vs:List Vr}{i:Nat}(h:i<vs.length):(wsL us bs vs)[i]'(by rw[sB];exact h)=rsV us bs vs[i] i:=List.getElem_mapIdx
theorem ws_names{us bs:List Nat}{vs:List Vr}:(wsL us bs vs).map Vr.name=vs.map Vr.name:=
 List.ext_getElem (by simp[sB]) fun i h1 h2=>by
  rw[List.getElem_map,List.getElem_map,ws_at (by simpa using h2)];rfl
theorem raT_up{ss:List (List UInt8)}{us:List Nat}{d e:D}(h:Lt ss us d e){low b:Nat}(hl:gZ us=(low:Nat)){t:Tl}(ht:TG us t)(hb:b<us.length):TU us t (raT us b t):=by
 have h0:=ht.2.2;rw[hl,tyE_iff]at h0;obtain⟨h1,h2,h3,h4,h5,h6,h7⟩:=h0;have jx:=h.j h3.1 hb;have jy:=h.j h3.2.1 hb;have jz:=h.j h3.2.2 hb;have ok:(raT us b t).ok us.length:=by
  refine⟨?_,?_,jz.2⟩
  ·show(if 1≤t.r then J us t.x b else t.x)<us.length
   split;exact jx.2;exact h3.1
  ·show(if 2≤t.r then J us t.y b else t.y)<us.length
   split;exact jy.2;exact h3.2.1
 have mono:∀{x:Nat},x<us.length→Le us x t.z→Le us (J us x b) (J us t.z b):=fun {x} hx hle=>
  J_le h hx hb (le_trans h hx h3.2.2 jz.2 hle (le_J h h3.2.2 hb).1) (le_J h h3.2.2 hb).2
 refine⟨⟨rfl,rfl,?_,?_,(le_J h h3.2.2 hb).1⟩,ht,ok,ht.2.1,?_⟩
 ·show Le us t.x (if 1≤t.r then J us t.x b else t.x)
  split;exact(le_J h h3.1 hb).1;exact le_refl h h3.1
 ·show Le us t.y (if 2≤t.r then J us t.y b else t.y)
  split;exact(le_J h h3.2.1 hb).1;exact le_refl h h3.2.1
 ·rw[hl,tyE_iff];refine⟨h1,h2,ok,fun e=>?_,fun e=>?_,fun e=>?_,fun e=>?_⟩
  ·show(if 1≤t.r then J us t.x b else t.x)=low
   rw[aD (by have:t.r=0:=e;omega)];exact h4 e
  ·show(if 2≤t.r then J us t.y b else t.y)=low
   rw[aD (by have:t.r≤1:=e;omega)];exact h5 e
  ·show Le us (if 1≤t.r then J us t.x b else t.x) (J us t.z b)
   rw[aH (show 1≤t.r from e)];exact mono h3.1 (h6 e)
  ·show Le us (if 2≤t.r then J us t.y b else t.y) (J us t.z b)
   rw[aH (by have:t.r=2:=e;omega)];exact mono h3.2.1 (h7 e)
theorem bI_lt{bs:List Nat}{n i:Nat}(h:0<n):bI bs n i<n:=Nat.mod_lt _ h
theorem rs_ty{ss:List (List UInt8)}{us:List Nat}{d e:D}(h:Lt ss us d e){low:Nat}(hl:gZ us=(low:Nat))(bs:List Nat){v:Vr}(hv:tyE us (gZ us) v.ty=0)(i:Nat):TU us (toT v.ty) (toT (rsV us bs v i).ty):=by
 have ht:=(sC hv).2;show TU us (toT v.ty) (toT (tl _));rw[toT_tl];exact raT_up h hl ht (bI_lt (by have:=h.h1;have:=h.l;omega))
theorem tg_ty{us:List Nat}{t:Tl}(h:TG us t):tyE us (gZ us) (tl t)=0:=h.2.2
theorem ws_env{ss:List (List UInt8)}{us:List Nat}{d e:D}(h:Lt ss us d e){low:Nat}(hl:gZ us=(low:Nat)){bs:List Nat}{vs:List Vr}{fs:List Fd}(hv:envE us vs fs=0):envE us (wsL us bs vs) fs=0:=by
 have hG:=env_ok hv;have hne:∀{s:List UInt8} {L:List (List UInt8)},iP s=true→s∉L→mX s L=0:=fun {s L} h1 h2=>by
  unfold mX;rw[aH h1,aD h2]
 have hty:∀{i:Nat} (hi:i<vs.length),tyE us (gZ us) (rsV us bs vs[i] i).ty=0:=fun {i} hi=>
  tg_ty (by have:=(rs_ty h hl bs (hG.vt _ (cB hi)) i).2.2;rwa [show toT (rsV us bs vs[i] i).ty=raT us (bI bs us.length i) (toT vs[i].ty) from toT_tl _]at this)
 have hnone:∀i,i<(wsL us bs vs).length→vP us (wsL us bs vs) i=none:=fun i hi=>by
  have hi':i<vs.length:=by rwa [sB]at hi
  unfold vP;rw[aI hi];simp only;rw[List.map_take,ws_names,←List.map_take,ws_at hi',show(rsV us bs vs[i] i).name=vs[i].name from rfl,aH (hne (hG.vn i hi').1 (hG.vn i hi').2),aH (hty hi')]
 have hnone':∀i,i<vs.length→vP us vs i=none:=fun i hi=>by
  unfold vP;rw[aI hi];simp only;rw[aH (hne (hG.vn i hi).1 (hG.vn i hi).2),aH (hG.vt _ (cB hi))]
 have hdf:dfP (wsL us bs vs) fs=dfP vs fs:=by
  funext i;unfold dfP;rw[ws_names]
 unfold envE at hv ⊢;rw[sB];split at hv
 ·cases hv
 rename_i hlen;rw[aD hlen,hdf];rw[gU fun j hj=>hnone' j hj]at hv
 have hnone2:∀j,j<vs.length→vP us (wsL us bs vs) j=none:=fun j hj=>hnone j (by rw[sB];exact hj)
 rw[gU hnone2];exact hv
theorem ws_rel{ss:List (List UInt8)}{us:List Nat}{d e:D}(h:Lt ss us d e){low:Nat}(hl:gZ us=(low:Nat))(bs:List Nat):∀(vs:List Vr) (k:Nat),(∀v∈vs,tyE us (gZ us) v.ty=0)→kF (VRl (TU us)) vs (vs.mapIdx fun i v=>rsV us bs v (i+k))
 | [],_,_=>.nil
 | v::vs,k,hv=>by
  rw[List.mapIdx_cons];refine .cons ⟨rfl,by rw[bK];exact rs_ty h hl bs (hv v (bH ..)) k⟩ ?_
  have:=ws_rel h hl bs vs (k+1) fun v hv'=>hv v (bG _ hv')
  have e:(fun i v=>rsV us bs v (i+1+k))=fun i v=>rsV us bs v (i+(k+1)):=by
   funext i v;rw[Nat.add_assoc,Nat.add_comm 1 k]
  rw[e];exact this
theorem meet_is{ss:List (List UInt8)}{us:List Nat}{d e:D}(h:Lt ss us d e){a b:Nat}(ha:a<us.length)(hb:b<us.length):
  ∃m:Nat,jH (dnM (uM us) us.length us.length) us.length a b=m∧m<us.length∧Le us m a∧Le us m b:=by
 have h2:=latD_good (CHK_lat h.c) a (h.l▸ha) b (h.l▸hb)
 rw[←h.l]at h2;unfold lat2 at h2;simp only[bE,Bool.not_eq_true',bX]at h2;have h3:=h2.2;unfold jH at h3 ⊢;rcases eR (kL (dnM (uM us) us.length us.length) a b) (-1) us.length 0 with⟨_,h'⟩|⟨m,r,_,hm,h5,_,h6⟩
 ·rw[h']at h3;exact absurd (by decide) h3
 have hm':m<us.length:=by omega
 unfold kL at h5;split at h5
 case isFalse=>cases h5
 case isTrue he=>
  have e:(m:Int)=r:=Option.some.inj h5;have hmm:(dnM (uM us) us.length us.length m).testBit m=true:=by
   have:=le_refl h hm';unfold Le at this;rw[oO];simp[hm',this]
  rw[aR he,Nat.testBit_and,oO,oO]at hmm;simp only[bE,cI]at hmm;exact⟨m,by rw[h6,e],hm',hmm.1.2.1,hmm.2.2.1⟩
theorem down_near{us:List Nat}{n a b:Nat}(ha:a<n)(hb:b<n):jH (uM (oH n us)) n a b=jH (dnM (uM us) n n) n a b:=by
 unfold jH;refine qX fun c _ hc=>?_
 unfold kL;rw[down_uM n us (by omega),down_uM n us ha,down_uM n us hb]
theorem c16(n:Nat){ss:List (List UInt8)}{us:List Nat}{d e:D}(h:Lt ss us d e){low:Nat}(hl:low<us.length)(hb:∀i,i<us.length→(uM us low).testBit i=true):
  cl (n+5) 16 [.agg [d,e]]=some (e2 (low:Nat) 0,true):=by
 rw[cK (A:=A16) rfl (n+5) _ rfl,show A16.body=B16 from rfl]
 simp only[B16,Ab.abq];have h1:0<us.length:=by omega
 have h50:cl (n+4) 50 [.agg [d,e],.int .i64 0,.int .i64 0]=some (.int .i64 0,true):=c50 n h h1 h1;have h51:=c51 (n+3) h.d h.e h.u h.h8 h.l;rw[←h.l]at h51;have ld:=h.d.len;rw[←h.l]at ld;have hsl:=Sl8 (dnM (uM us) us.length us.length) us.length;rw[show(List.range us.length).map (dnM (uM us) us.length us.length)=oH us.length us from rfl]at hsl
 have dlen:(oH us.length us).length=us.length:=by unfold oH;simp
 have hu8:iM (oH us.length us):=fun u hu=>by
  unfold oH at hu;obtain⟨i,_,rfl⟩:=cQ.1 hu;exact dnM_u8 _ (by have:=h.h8;have:=h.l;omega)
 have h52:∀a b,a<us.length→b<us.length→cl (n+4) 52 [.sl true us.length (cells8 (dnM (uM us) us.length us.length) us.length),.int .i64 (a:Nat),.int .i64 (b:Nat)]=some (.int .i64 (jH (dnM (uM us) us.length us.length) us.length a b),true):=fun a b ha hb=>by
  have:=c52 (n+4) hsl hu8 (by rw[dlen];have:=h.h8;have:=h.l;omega) (a:=a) (b:=b) (by rw[dlen];exact ha) (by rw[dlen];exact hb)
  rw[dlen,down_near ha hb]at this;exact this
 generalize D.sl true us.length (cells8 (dnM (uM us) us.length us.length) us.length)=q at *;have hqn:=hsl.nag;simp only[z0,seval,h.d.nag,h.e.nag,h.d.fz,h.e.fz,aF (f:=50) rfl,aF (f:=51) rfl,aQ,h50,h51,show decide ((0:Int)≠0)=false from rfl]
 generalize hz:zloop KK _ _=rl;have hul:=h.l;have hu8':=h.h8;refine zfor rl hz us.length (fQ (by omega)) (by omega) (fun i t s c=>sget s 0=some (.fix 26 [d,e])∧tget t 1 = .ptr 0 0∧tget t 5=q∧∃b:Nat,tget t 6 = .int .i64 (b:Nat)∧b<us.length∧∀j,j<i→Le us b j) (by simp[aE]) ⟨by simp[aE],by simp[aE],by simp[aE],0,by simp[aE],h1,nofun⟩ ?_
 rintro i t s c hi ⟨s0,t1,t5,b,t6,hbl,hj⟩ t7;by_cases hlt:i<us.length
 ·obtain⟨m,hm1,hm2,hm3,hm4⟩:=meet_is h hlt hbl;have h5:=h52 i b hlt hbl;rw[hm1]at h5;simp only[z0,seval,s0,t1,t5,t6,t7,ld,eD hlt,aF (f:=52) rfl,aQ,hsl.fz,h5];exact⟨hlt,trivial,trivial,trivial,trivial,trivial,trivial,m,rfl,hm2,fun j hjj=>by
   rcases cY.1 hjj with h'|rfl
   ·exact le_trans h hm2 hbl (by omega) hm4 (hj j h')
   ·exact hm3⟩
 ·have e1:i=us.length:=by omega
  subst e1;have:b=low:=by
   refine ord_anti (ord_lt h) hbl hl (hj low hl) (hb b hbl)
  subst this;simp only[z0,seval,s0,t1,t5,t6,t7,ld,kB (aJ us.length),A16];rfl
end
end Zv
