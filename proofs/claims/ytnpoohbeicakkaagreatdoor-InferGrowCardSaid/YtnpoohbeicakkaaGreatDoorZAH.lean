/- Regions whose order is open: steps that act, and the whole region. Conditions: none. -/
import Derived.Test.YtnpoohbeicakkaaGreatDoorZAG
set_option linter.unusedSimpArgs false
set_option linter.unusedVariables false
namespace Zv
open Go
theorem hf_mu_some{c c':Nat}{s s':St}{μ μ':Mu}{w w':World}(h:Fr c s μ w c' s' μ' w'){n:Nat}{l:Loc}(e:μ n=some l):μ' n=some l:=h.mu n l e
section
variable {E:Env} {cx:Cx} {cl:CL} {M0:Nat→Prop} {w0:World} {N:Nat} {M:Nat→Prop} {n:Nat} {anc:List Nat} {az:List cR} {x0:AS} {μ0:Mu} {wS:World} {out:Out} {y:AS}
 {listed:Array Bool} {a:Act} {w:World} {done:List (Nat×cR)} {l:List Ent} {hist:List St} {z:AS} {tr:List Ev} {μ:Mu} {xh:AS}
 {ops:Array Oper} {b:Frame} {k:List Item} {cs:List Frame}
theorem Inv.before(h:Inv E cx cl M0 w0 N n anc az x0 μ0 wS out y listed a w done l hist z tr μ xh){pre:List Ev}{e:Ev}{post:List Ev}(he:tr=pre++e::post)(hk:e.o.op.kd=2)
  (hanc:∀q,(anc.getD e.i 0).testBit q=true→listed.getD q false=true) :
  (∀f∈pre,listed.getD f.i false=true)∧∀f∈pre,f.o.op.kd≠2:=by
 obtain⟨h1,h2,l2,h3,h4⟩:=kS h.can he;have ho:=h.ord;rw[h3]at ho;obtain⟨_,_,_,_,g5,_,_,_,_⟩:=ho.drop;have hl:∀f∈pre,listed.getD f.i false=true:=fun f hf=>hanc _ (g5 hk f.i (cQ.2 ⟨_,mem_preOf hf,rfl⟩))
 refine⟨hl,fun f hf hk2=>?_⟩
 have:=h.ne f.ent (iX h.can f (by rw[he];exact fY _ hf)) hk2
 have h5:=hl f hf;simp only[Ev.ent]at this;rw[this]at h5;cases h5
theorem Inv.late(h:Inv E cx cl M0 w0 N n anc az x0 μ0 wS out y listed a w done l hist z tr μ xh){pre:List Ev}{e:Ev}{post:List Ev}(he:tr=pre++e::post)(hk:e.o.op.kd=2)(hi0:listed.getD e.i false=false)
  (hn:∀f∈pre,f.o.op.kd≠2) (hdown:∀j,listed.getD j false=true→∀q,(anc.getD j 0).testBit q=true→listed.getD q false=true) :
  ∀f∈tr,listed.getD f.i false=true→f∉pre→f.k≠0:=by
 intro f hf hl hp hk0;have hft:=hf;rw[he]at hf;rcases List.mem_append.1 hf with hf|hf
 ·exact hp hf
 ·rcases bL.1 hf with rfl|hf
  ·rw[hi0]at hl;cases hl
  ·obtain⟨q1,q2,hq⟩:=List.append_of_mem hf;have he2:tr=(pre++e::q1)++f::q2:=by rw[he,hq];simp
   by_cases hkf:f.o.op.kd=2
   ·have:=h.ne f.ent (iX h.can f hft) hkf;simp only[Ev.ent]at this;rw[this]at hl;cases hl
   ·have:=h.room he2 hkf (hdown _ hl);rw[hk0,List.filterMap_append,dD,List.filterMap_cons,xO hk]at this;simp at this
theorem Inv.meet(h:Inv E cx cl M0 w0 N n anc az x0 μ0 wS out y listed a w done l hist z tr μ xh){pre:List Ev}{x:AS}(hb:jO x0.c pre z x)(hsub:∀f∈pre,f∈tr)(hl:∀f∈pre,listed.getD f.i false=true)(hn:∀f∈pre,f.o.op.kd≠2)
  (hke:∀f∈tr,listed.getD f.i false=true→f∉pre→f.k≠0) :
  x.c=xh.c∧(∀nm blk,sget x.s nm=some blk→μ nm≠none→sget xh.s nm=some blk)∧Rel E M0 w0 N μ a w x:=by
 obtain⟨g1,g2,g3⟩:=hb.2.2.2 hn;have hs:∀nm blk,sget x.s nm=some blk→μ nm≠none→sget xh.s nm=some blk:=fun nm blk e1 e2=>by
  rcases g2 nm blk e1 with e|⟨f,hf,e3,rfl⟩
  ·exact h.st1 nm blk e e2
  ·exact(h.st2 f (hsub f hf) (hl f hf) blk e3).1
 refine⟨g1.trans h.c.symm,hs,h.rel.restrict (fun m=>?_) hs (by rw[g1,h.c];exact aJ _) (hb.2.1.trans h.d.symm)⟩
 rcases hb.1 m with⟨f,hf,e1,e2⟩|⟨e1,e2⟩
 ·left
  rw[e2,h.tmp1 f (hsub f hf) (hl f hf) m e1]
 ·by_cases hex:∃f∈tr,listed.getD f.i false=true∧f.o.dst=some m
  ·obtain⟨f,hf,hlf,hd⟩:=hex
   right
   rw[e2];exact h.kil f.ent (iX h.can f hf) (hke f hf hlf fun hm=>e1 f hm hd) m hd
  ·left
   rw[e2];exact(h.tmp2 m fun f hf hl hd=>hex ⟨f,hf,hl,hd⟩).symm
theorem Inv.acted(h:Inv E cx cl M0 w0 N n anc az x0 μ0 wS out y listed a w done l hist z tr μ xh){pre:List Ev}{e:Ev}{post:List Ev}(he:tr=pre++e::post)(hk:e.o.op.kd=2)
  (hsz:e.i<listed.size) (hi0:listed.getD e.i false=false) (hanc:∀q,(anc.getD e.i 0).testBit q=true→listed.getD q false=true)
  (hdown:∀j,listed.getD j false=true→∀q,(anc.getD j 0).testBit q=true→listed.getD q false=true)
  {l2:List Ent} (hl2:l=pre.map Ev.ent++(e.ent::l2)) {z':AS} (hcan:lT cx cl x0.c l2 (e.x.s::e.hist) z' post out y) (ht:z'.t=iI e.o.dst e.x.t e.d) (hzd:z'.d=e.x.d) (hzr:z'.r=e.x.r)
  {a':Act} {w':World} {μ':Mu} (hR:Rel E M0 w0 N μ' a' w' z') (hoth:∀m,e.o.dst≠some m→a'.tmps.getD m undef=a.tmps.getD m undef) (hf:Fr e.x.c e.x.s μ w z'.c z'.s μ' w') :
  ∃done' xh',Inv E cx cl M0 w0 N n anc az x0 μ0 wS out y (listed.setIfInBounds e.i true) a' w' done' l2 (e.x.s::e.hist) z' post μ' xh':=by
 obtain⟨h1,h2,_⟩:=kS h.can he;obtain⟨hl,hn⟩:=h.before he hk hanc;have hsub:∀f∈pre,f∈tr:=fun f hf=>by rw[he];exact fY _ hf
 have psub:∀f∈post,f∈tr:=fun f hf=>by rw[he];exact List.mem_append_right _ (bG _ hf)
 obtain⟨m1,m2,m3⟩:=h.meet h2 hsub hl hn (h.late he hk hi0 hn hdown);obtain⟨ap1,ap2⟩:=h.apart he;have ho:=h.ord;rw[hl2]at ho;have ho':=ho.drop;obtain⟨g1,g2,g3,g4,g5,g6,g7,g8,g9⟩:=ho';have hge:=h.ge;have hcc:=h.c;have hL:∀j,(listed.setIfInBounds e.i true).getD j false=if j=e.i then true else listed.getD j false:=fun j=>tC _ _ _ hsz
 -- a block that was made early
 have early:∀f∈post,listed.getD f.i false=true→∀blk,f.nb=some blk→sget e.x.s (x0.c+f.i)=none∧sget z'.s (x0.c+f.i)=none:=by
  intro f hf hlf blk hb;obtain⟨q1,q2,hq⟩:=List.append_of_mem hf;have he2:tr=(pre++e::q1)++f::q2:=by rw[he,hq];simp
  obtain⟨_,_,_,_,c4⟩:=kS h.can he2;obtain⟨a1,a2⟩:=canon_alloc c4 hb;have hroom:=h.room he2 (by rw[a2];decide) (hdown _ hlf)
  obtain⟨s1,b1,_,_,b4⟩:=phase h.can he2 hroom;have hs1:=b4 pre e q1 rfl hn hk;refine⟨by rw[←hs1];exact a1 s1 b1,?_⟩
  have hroom2:(q1.filterMap tI).length≤f.k:=by
   refine fW ?_ hroom;rw[List.filterMap_append,dD,List.filterMap_cons,xO hk];simp;omega
  obtain⟨s2,d1,_,d3,_⟩:=phase hcan hq hroom2;cases hz:sget z'.s (x0.c+f.i) with
  | none=>rfl
  | some q=>exact absurd (a1 s2 d1) (d3 _ (by rw[hz];simp))
 -- the store with what was made early
 let L:List (Nat×Blk):=post.filterMap fun f=>match f.nb with
  | some blk=>bif listed.getD f.i false then some (x0.c+f.i,blk) else none
  | none=>none
 have hLm:∀nm blk,(nm,blk)∈L→∃f∈post,listed.getD f.i false=true∧f.nb=some blk∧nm=x0.c+f.i:=fun nm blk hm=>by
  simp only[L,List.mem_filterMap]at hm;obtain⟨f,hf,e1⟩:=hm;cases hnb:f.nb with
  | none=>rw[hnb]at e1;cases e1
  | some bk=>
   rw[hnb]at e1;cases hlf:listed.getD f.i false<;>rw[hlf]at e1
   ·cases e1
   ·cases e1;exact⟨f,hf,hlf,hnb,rfl⟩
 have hmL:∀f∈post,listed.getD f.i false=true→∀blk,f.nb=some blk→(x0.c+f.i)∈L.map (·.1):=fun f hf hlf blk hb=>by
  refine cQ.2 ⟨(x0.c+f.i,blk),?_,rfl⟩;simp only[L,List.mem_filterMap];exact⟨f,hf,by rw[hb,hlf];rfl⟩
 obtain⟨s2,hs2⟩:=store_over z'.s L;have hx:Ext (Mm M0 μ) w (Mm M0 μ') w':=hf.ext;have hfx:Fr xh.c e.x.s μ w z'.c z'.s μ' w':=by rw[←m1];exact hf
 obtain⟨hbig,hfb⟩:=h.rel.lift m2 hR hfx (s2:=s2) (t2:=iI e.o.dst xh.t e.d) (fun nm blk hb hne=>by
   by_cases hm:nm∈L.map (·.1)
   ·obtain⟨blk',k1,k2⟩:=(hs2 nm).1 hm;rw[hb]at k2;cases k2;obtain⟨f,hf,hlf,hnb,rfl⟩:=hLm nm blk k1;obtain⟨e1,e2⟩:=h.st2 f (psub f hf) hlf blk hnb;exact .inr ⟨e1,e2,(early f hf hlf blk hnb).1⟩
   ·rw[(hs2 nm).2 hm]at hb;exact .inl hb) (fun m=>by
   rw[jP];by_cases hd:e.o.dst=some m
   ·rw[aH hd];have:=hR.tm m;rw[ht,jP,aH hd]at this;exact this
   ·rw[aD hd,hoth m hd];exact aP.mono hx _ _ hf.mu (h.rel.tm m))
 have hext:∀m,e.o.dst≠some m→(∀f∈post,listed.getD f.i false=true→f.o.dst≠some m)→tget xh.t m=tget e.x.t m:=fun m hd hp=>by
  rcases h2.1 m with⟨f,hf,e1,e2⟩|⟨e1,e2⟩
  ·rw[e2,h.tmp1 f (hsub f hf) (hl f hf) m e1]
  ·rw[e2];refine h.tmp2 m fun f hf hlf hd'=>?_
   rw[he]at hf;rcases List.mem_append.1 hf with hf|hf
   ·exact e1 f hf hd'
   ·rcases bL.1 hf with rfl|hf
    ·exact hd hd'
    ·exact hp f hf hlf hd'
 refine⟨(e.i,e.o)::(mH (pre.map Ev.ent)++done),_,{
  ord:=g9
  can:=hcan
  dn:=fun p hp=>by
   rw[hL];split
   ·rfl
   ·rename_i hne;rcases bL.1 hp with rfl|hp
    ·exact absurd rfl hne
    ·rcases List.mem_append.1 hp with hp|hp
     ·simp only[mH,List.mem_reverse,List.map_map,cQ]at hp;obtain⟨f,hf,rfl⟩:=hp;exact hl f hf
     ·exact h.dn p hp
  ne:=fun f hf hk2=>by
   rw[hL,aD]
   ·exact h.ne f (by rw[hl2];exact List.mem_append_right _ (bG _ hf)) hk2
   ·exact(g9.mem hf (p:=(e.i,e.o)) bH).1
  rel:=hbig
  c:=rfl
  d:=rfl
  r:=rfl
  r0:=by rw[hzr,h2.2.2.1];exact h.r0
  ge:=by have:=hfx.cle;omega
  tmp1:=fun f hf hlf m hm=>by
   have:=ap2 f hf;rw[hL,aD this.1]at hlf;rw[jP,aD (this.2 m hm)];exact h.tmp1 f (psub f hf) hlf m hm
  tmp2:=fun m hm=>by
   rw[ht,jP,jP];by_cases hd:e.o.dst=some m
   ·rw[aH hd,aH hd]
   ·rw[aD hd,aD hd];exact hext m hd fun f hf hlf=>hm f hf (by rw[hL];split;rfl;exact hlf)
  kil:=fun f hf hk0 m hm=>by
   obtain⟨_,k2,_⟩:=g9.mem hf (p:=(e.i,e.o)) bH;rw[ht,jP,aD (k2 m hm)];rcases h2.1 m with⟨f',hf',e1,e2⟩|⟨e1,e2⟩
   ·exact absurd e1 ((g9.mem hf (p:=(f'.i,f'.o)) (bG _ (mem_preOf hf'))).2.1 m hm)
   ·rw[e2];exact h.kil f (by rw[hl2];exact List.mem_append_right _ (bG _ hf)) hk0 m hm
  st1:=fun nm blk hb hne=>by
   have hm:nm∉L.map (·.1):=fun hm=>by
    obtain⟨p,hp,e1⟩:=cQ.1 hm;obtain⟨f,hf,hlf,hnb,e2⟩:=hLm p.1 p.2 hp;have:=(early f hf hlf _ hnb).2;rw[←e2,e1,hb]at this;cases this
   show sget s2 nm=some blk;rw[(hs2 nm).2 hm];exact hb
  st2:=fun f hf hlf blk hb=>by
   rw[hL,aD (ap2 f hf).1]at hlf;obtain⟨blk',k1,k2⟩:=(hs2 _).1 (hmL f hf hlf blk hb);obtain⟨f',hf',hlf',hnb',e2⟩:=hLm _ _ k1;have:f'=f:=h.unique (psub f hf) (psub f' hf') (by omega)
   subst this;rw[hb]at hnb';cases hnb';refine⟨k2,?_⟩;obtain⟨_,e3⟩:=h.st2 f' (psub f' hf) hlf blk hb;cases hm:μ (x0.c+f'.i) with
   | none=>exact absurd hm e3
   | some lc=>rw[hf_mu_some hfx hm];simp
  unm:=fun f hf hlf=>by
   have hfl:f∈l:=by rw[hl2];exact List.mem_append_right _ (bG _ hf)
   rw[hL,aD (g9.mem hf (p:=(e.i,e.o)) bH).1]at hlf;have hlt:=(h.ord.get f hfl).2;exact hfx.kept _ (by omega) (h.unm f hfl hlf)
  fr:=h.fr.trans' (hfb.weaken (by omega)) }⟩
end
def ancOf(o:Oper)(acc:List Nat):Nat:=
 o.after.toList.foldl (fun s e=>bif Region.binds .any e then s ||| 2 ^ e.on ||| acc.getD e.on 0 else s) 0
theorem ancs_spec:∀(l:List Oper) (acc:List Nat),∃r,ancs l acc=acc++r∧r.length=l.length∧∀k o,l[k]?=some o→r[k]?=some (ancOf o (acc++r.take k))
 | [],acc=>⟨[],by simp[ancs],rfl,fun k o h=>by simp at h⟩
 | o::l,acc=>by
  obtain⟨r,h1,h2,h3⟩:=ancs_spec l (acc++[ancOf o acc]);refine⟨ancOf o acc::r,?_,by simp[h2],fun k o' hk=>?_⟩
  ·have:ancs (o::l) acc=ancs l (acc++[ancOf o acc]):=rfl;rw[this,h1];simp
  ·cases k with
   | zero=>simp only[aT,aC]at hk;subst hk;simp
   | succ k=>
    simp only[List.getElem?_cons_succ]at hk;have:=h3 k o' hk;simpa using this
theorem fold_bit{acc:List Nat}{i:Nat}:∀(l:List Edge) (s:Nat),
  (l.foldl (fun s e=>bif Region.binds .any e then s ||| 2 ^ e.on ||| acc.getD e.on 0 else s) s).testBit i=true →
  s.testBit i=true∨∃e∈l,Region.binds .any e=true∧(e.on=i∨(acc.getD e.on 0).testBit i=true)
 | [],s,h=>.inl h
 | e::l,s,h=>by
  rw[List.foldl_cons]at h;rcases fold_bit l _ h with h|⟨e',h1,h2⟩
  ·cases hb:Region.binds .any e with
   | false=>rw[hb]at h;exact .inl h
   | true=>
    rw[hb]at h;simp only[aS,Nat.testBit_or,Bool.or_eq_true,Nat.testBit_two_pow,cI]at h;rcases h with(h|h)|h
    ·exact .inl h
    ·exact .inr ⟨e,bH,hb,.inl h⟩
    ·exact .inr ⟨e,bH,hb,.inr h⟩
  ·exact .inr ⟨e',bG _ h1,h2⟩
theorem anc_bit{ops:Array Oper}{i j:Nat}(h:((ancs ops.toList []).getD j 0).testBit i=true):
  ∃o e,ops[j]?=some o∧e∈o.after∧Region.binds .any e=true∧(e.on=i∨(e.on<j∧((ancs ops.toList []).getD e.on 0).testBit i=true)):=by
 obtain⟨r,h1,h2,h3⟩:=ancs_spec ops.toList [];rw[cA]at h1;rw[h1]at h ⊢;have hj:j<ops.toList.length:=by
  rcases Nat.lt_or_ge j r.length with hl|hl
  ·omega
  ·rw[gR,gO hl]at h;simp at h
 have ho:ops.toList[j]?=some ops.toList[j]:=aI hj;have hr:=h3 j _ ho;rw[gR,hr,Option.getD_some,ancOf,cA]at h;rcases fold_bit _ _ h with h|⟨e,he,hb,h⟩
 ·simp at h
 ·refine⟨ops.toList[j],e,by simp,by simpa using he,hb,?_⟩
  rcases h with h|h
  ·exact .inl h
  ·right
   rcases Nat.lt_or_ge e.on j with hl|hl
   ·refine⟨hl,?_⟩;rw[gR,List.getElem?_take_of_lt hl,←gR]at h;exact h
   ·rw[gR,gO (by rw[dG];omega)]at h
    simp at h
def Down(ops:Array Oper)(listed:Array Bool):Prop:=
 ∀(j:Nat) (o:Oper) (e:Edge),listed.getD j false=true→ops[j]?=some o→e∈o.after→Region.binds .any e=true→listed.getD e.on false=true
theorem anc_listed{ops:Array Oper}{listed:Array Bool}(hd:Down ops listed){i:Nat}:∀(j:Nat),
  (∀o e,ops[j]?=some o→e∈o.after→Region.binds .any e=true→listed.getD e.on false=true) →
  ((ancs ops.toList []).getD j 0).testBit i=true→listed.getD i false=true:=by
 intro j
 induction j using Nat.strongRecOn with
 | ind j ih=>
  intro hr h;obtain⟨o,e,ho,he,hb,hc⟩:=anc_bit h;have hl:=hr o e ho he hb;rcases hc with rfl|⟨hlt,hc⟩
  ·exact hl
  ·exact ih e.on hlt (fun o' e' ho' he' hb'=>hd e.on o' e' hl ho' he' hb') hc
theorem fold_has{acc:List Nat}{i:Nat}:∀(l:List Edge) (s:Nat),(s.testBit i=true∨∃e∈l,Region.binds .any e=true∧e.on=i) →
  (l.foldl (fun s e=>bif Region.binds .any e then s ||| 2 ^ e.on ||| acc.getD e.on 0 else s) s).testBit i=true
 | [],s,h=>by
  rcases h with h|⟨e,he,_⟩
  ·exact h
  ·cases he
 | e::l,s,h=>by
  rw[List.foldl_cons];refine fold_has l _ ?_;rcases h with h|⟨e',he,hb,hi⟩
  ·left
   cases Region.binds .any e
   ·exact h
   ·simp[Nat.testBit_or,h]
  ·rcases bL.1 he with rfl|he
   ·left
    rw[hb];simp[Nat.testBit_or,Nat.testBit_two_pow,hi]
   ·exact .inr ⟨e',he,hb,hi⟩
theorem anc_edge{ops:Array Oper}{j:Nat}{o:Oper}{e:Edge}(ho:ops[j]?=some o)(he:e∈o.after)(hb:Region.binds .any e=true):((ancs ops.toList []).getD j 0).testBit e.on=true:=by
 obtain⟨r,h1,h2,h3⟩:=ancs_spec ops.toList [];rw[cA]at h1;rw[h1];have hr:=h3 j o (by simpa using ho)
 rw[gR,hr,Option.getD_some,ancOf,cA];exact fold_has _ _ (.inr ⟨e,by simpa using he,hb,rfl⟩)
theorem cOpers_get{P:Program}{N:Nat}{ops:Array Oper}:∀(l:List Oper) (az:List cR),lD P N ops l=some az →
  ∀(k:Nat) (o:Oper),l[k]?=some o→∃ao,az[k]?=some ao∧xS P N ops o=some ao
 | [],az,hc,k,o,h=>by simp at h
 | o::l,az,hc,k,o',hk=>by
  simp only[lD,aB,aA,aC]at hc;obtain⟨ao,h1,as',h2,rfl⟩:=hc;cases k with
  | zero=>simp only[aT,aC]at hk;subst hk;exact⟨ao,rfl,h1⟩
  | succ k=>
   simp only[List.getElem?_cons_succ]at hk;obtain⟨ao',h5,h6⟩:=cOpers_get l as' h2 k o' hk;exact⟨ao',by simpa using h5,h6⟩
theorem getD_lt{l:Array Bool}{k:Nat}(h:k<l.size)(d d':Bool):l.getD k d=l.getD k d':=by
 simp[eJ,h]
theorem canon_normal{cx:Cx}{cl:CL}{c0:Nat}{l:List Ent}{hist:List St}{z:AS}{tr:List Ev}{out:Out}{y:AS}(h:lT cx cl c0 l hist z tr out y)(hn:∀e∈l,e.2.2.op.kd≠2):out = .normal:=by
 induction h with
 | nil=>rfl
 | look _ _ _ ih=>exact ih fun e he=>hn e (bG _ he)
 | alloc _ _ _ _ _ _ ih=>exact ih fun e he=>hn e (bG _ he)
 | act hk _ _ _=>exact absurd hk (hn _ bH)
 | pan hk _ _ _=>exact absurd hk (hn _ bH)
section
variable {E:Env} {cx:Cx} {cl:CL} {M0:Nat→Prop} {w0:World} {N:Nat} {M:Nat→Prop} {n:Nat} {anc:List Nat} {az:List cR} {x0:AS} {μ0:Mu} {wS:World} {out:Out} {y:AS}
 {listed:Array Bool} {a:Act} {w:World} {done:List (Nat×cR)} {l:List Ent} {hist:List St} {z:AS} {tr:List Ev} {μ:Mu} {xh:AS}
 {ops:Array Oper} {b:Frame} {k:List Item} {cs:List Frame}
theorem Fr.part{c c':Nat}{s s':St}{μ:Mu}{w:World}(hc:c≤c')(hs:∀nm blk,sget s' nm=some blk→μ nm≠none→sget s nm=some blk):Fr c s μ w c' s' μ w:=
 ⟨aJ _,fun _ _ _=>rfl,fun b _ ⟨nm,l,h1,h2,h3⟩=>by
  obtain⟨bk,hbk⟩:=eA.1 h1;exact⟨nm,l,by rw[hs nm bk hbk (by rw[h2];simp)];rfl,h2,h3⟩,fV.refl μ,hc,fun _ _ h=>h,nonew⟩
theorem Inv.act(h:Inv E cx cl M0 w0 N n anc az x0 μ0 wS out y listed a w done l hist z tr μ xh)(hcl:nH E cl)(hM:∀t n f,cx.M t n=some f→oD E.P t n=some f)(hG:cx.G=E.G)(hro:gF b x0.r μ0)
  {pre:List Ev} {e:Ev} {post:List Ev} (he:tr=pre++e::post) (hk:e.o.op.kd=2)
  (hsz:e.i<listed.size) (hi0:listed.getD e.i false=false) (hanc:∀q,(anc.getD e.i 0).testBit q=true→listed.getD q false=true)
  (hdown:∀j,listed.getD j false=true→∀q,(anc.getD j 0).testBit q=true→listed.getD q false=true)
  {o:Oper} (ho:ops[e.i]?=some o) (hco:xS E.P N ops o=some e.o) (rest:List Nat) :
  (∃a' w' done' l' hist' z' tr' μ' xh',Inv E cx cl M0 w0 N n anc az x0 μ0 wS out y (listed.setIfInBounds e.i true) a' w' done' l' hist' z' tr' μ' xh' ∧
   Steps E.P (lone (fat b a (.inRegion ops (e.i::rest)::k)) cs w) (lone (fat b a' (.inRegion ops rest::k)) cs w')) ∨
  Did E M0 w0 N μ0 wS x0 (lone (fat b a (.inRegion ops (e.i::rest)::k)) cs w) b k cs out y:=by
 obtain⟨h1,h2,l2,h3,h4⟩:=kS h.can he;obtain⟨hl,hn⟩:=h.before he hk hanc;obtain⟨hop,hdst,hgd,hd⟩:=mP hco;obtain⟨m1,m2,m3⟩:=h.meet h2 (fun f hf=>by rw[he];exact fY _ hf) hl hn (h.late he hk hi0 hn hdown)
 have hge:=h.ge;have hcc:=h.c;have hro':gF b e.x.r μ:=by rw[h2.2.2.1,h.r0];exact hro.mono h.fr.mu
 have hc:=h4;have hlink:e.x.r=x0.r:=by rw[h2.2.2.1];exact h.r0
 obtain⟨ei,ek,eo,ehist,ex,ed,enb⟩:=e;simp only at *;cases hc with
 | look hk'=>exact absurd hk hk'
 | alloc hk'=>rw[hk]at hk';cases hk'
 | @act _ _ _ _ _ _ z' _ _ _ _ _ hw hcan=>
  left
  rcases hw with⟨hw,hed,hz⟩|⟨hw,hz,ht,hzd,hzr⟩
  ·subst hed;have hwr:=jT m3 hgd hw;have hst:=kR (P:=E.P) (b:=b) (a:=a) (k:=k) (cs:=cs) (w:=w) (ops:=ops) (i:=ei) (rest:=rest) (by simp[ho,hwr])
   simp only[ho,aO]at hst;have hput:=m3.put (dst:=o.dst) (d:=.tup []) (v:=undef) hd (by simp only[aP];exact⟨#[],rfl,rfl⟩)
   have hput':Rel E M0 w0 N μ (a.put o.dst undef) w z':=by
    rw[hz,hdst];revert hput;cases o.dst<;>exact id
   obtain⟨done',xh',hI⟩:=h.acted he hk hsz hi0 hanc hdown h3 hcan (by rw[hz]) (by rw[hz]) (by rw[hz]) hput' (fun m hm=>uA _ _ _ _ (by rw[←hdst];exact hm)) (by rw[hz];exact Fr.refl _ _ _ _)
   exact⟨_,_,_,_,_,_,_,_,_,hI,.one hst⟩
  ·have hwr:=jT m3 hgd hw;obtain⟨a',w',μ',ou,hR,hoth,hf,hr,hou,hends⟩:=op_didA (k:=k) (cs:=cs) (rest:=rest) hcl hM hG m3 hro' hco ho hwr hz;cases hou;obtain⟨done',xh',hI⟩:=h.acted he hk hsz hi0 hanc hdown h3 hcan ht hzd hzr hR (fun m hm=>hoth m (by rw[←hdst];exact hm)) hf
   exact⟨_,_,_,_,_,_,_,_,_,hI,hends⟩
 | pan _ hw hz hr=>
  right
  have hwr:=jT m3 hgd hw;obtain⟨a',w',μ',ou,hR,hoth,hf,hr,hou,hends⟩:=op_didA (k:=k) (cs:=cs) (rest:=rest) hcl hM hG m3 hro' hco ho hwr hz;have hfr:Fr x0.c x0.s μ0 wS _ _ μ' w':=(h.fr.trans' (Fr.part (c:=x0.c) (c':=ex.c) (by omega) m2)).trans' (hf.weaken (by omega))
  exact Did.pass (it:=.inRegion ops rest) (fun _=>rfl) nofun ⟨a',w',μ',ou,hR,hfr,hr.trans hlink,hou,hends⟩
theorem Inv.finish(h:Inv E cx cl M0 w0 N n anc az x0 μ0 wS out y listed a w done l hist z tr μ xh)(hall:∀i,i<n→listed.getD i false=true):
  Did E M0 w0 N μ0 wS x0 (lone (fat b a (.inRegion ops []::k)) cs w) b k cs out y:=by
 have hno:∀e∈l,e.2.2.op.kd≠2:=fun e he hk=>by
  have:=h.ne e he hk;rw[hall _ (h.ord.get e he).2]at this;cases this
 have hout:=canon_normal h.can hno;subst hout;obtain⟨l2,z',h1,h2,h3⟩:=canon_pre h.can (pre:=tr) (post:=[]) (by simp) (.inr rfl)
 cases h2;have htr:∀f∈tr,f.ent∈l:=iX h.can
 have hl:∀f∈tr,listed.getD f.i false=true:=fun f hf=>hall _ (h.ord.get _ (htr f hf)).2
 obtain⟨m1,m2,m3⟩:=h.meet h3 (fun f hf=>hf) hl (fun f hf=>hno _ (htr f hf)) (fun f hf _ hn=>absurd hf hn)
 have hge:=h.ge;have hcc:=h.c;exact⟨a,w,μ,.normal,m3,h.fr.trans' (Fr.part (by omega) m2),by rw[h3.2.2.1];exact h.r0,rfl,.one kJ⟩
theorem tF{listed:Array Bool}:∀(l:List Ent),(∃e∈l,listed.getD e.1 false=false)→∃l1 e l2,l=l1++e::l2∧(∀f∈l1,listed.getD f.1 false=true)∧listed.getD e.1 false=false
 | [],h=>by obtain⟨e,he,_⟩:=h;cases he
 | f::r,h=>by
  cases hf:listed.getD f.1 false with
  | false=>exact⟨[],f,r,rfl,fun g hg=>(by cases hg),hf⟩
  | true=>
   obtain⟨e,he,hl⟩:=h;rcases bL.1 he with rfl|he
   ·rw[hf]at hl;cases hl
   ·obtain⟨l1,g,l2,h1,h2,h3⟩:=tF r ⟨e,he,hl⟩;refine⟨f::l1,g,l2,by rw[h1];rfl,fun q hq=>?_,h3⟩
    rcases bL.1 hq with rfl|hq
    ·exact hf
    ·exact h2 q hq
theorem count_set(listed:Array Bool)(n i:Nat)(hi:i<n)(hsz:i<listed.size)(h0:listed.getD i false=false):
  (List.range n).countP (fun j=>!(listed.setIfInBounds i true).getD j false)+1≤(List.range n).countP (fun j=>!listed.getD j false):=by
 obtain⟨l1,l2,hl⟩:=List.append_of_mem (List.mem_range.2 hi);rw[hl];simp only[List.countP_append,List.countP_cons];have hm:∀(L:List Nat),L.countP (fun j=>!(listed.setIfInBounds i true).getD j false)≤L.countP (fun j=>!listed.getD j false):=fun L=>
  List.countP_mono_left fun j _ hj=>by
   rw[tC _ _ _ hsz]at hj;split at hj
   ·simp at hj
   ·exact hj
 have h1:=hm l1;have h2:=hm l2;have e1:(!(listed.setIfInBounds i true).getD i false)=false:=by rw[tC _ _ _ hsz,aH rfl];rfl
 have e2:(!listed.getD i false)=true:=by rw[h0];rfl
 rw[aD (by rw[e1];simp),aH e2]
 omega
theorem Inv.run(hcl:nH E cl)(hM:∀t n f,cx.M t n=some f→oD E.P t n=some f)(hG:cx.G=E.G)(hro:gF b x0.r μ0)(hops:∀(k:Nat) (o:Oper),ops[k]?=some o→∃ao,az[k]?=some ao∧xS E.P N ops o=some ao)
  (hanc:anc=ancs ops.toList []) (hnn:n=ops.size):∀(fuel t:Nat) (listed:Array Bool) (a:Act) (w:World) (done:List (Nat×cR)) (l:List Ent) (hist:List St) (z:AS) (tr:List Ev) (μ:Mu) (xh:AS),
  Inv E cx cl M0 w0 N n anc az x0 μ0 wS out y listed a w done l hist z tr μ xh→listed.size=n→Down ops listed→(List.range n).countP (fun j=>!listed.getD j false)≤fuel →
  Did E M0 w0 N μ0 wS x0 (lone (fat b a (.inRegion ops (Region.linearise.go .any ops fuel t listed [])::k)) cs w) b k cs out y:=by
 intro fuel
 induction fuel with
 | zero=>
  intro t listed a w done l hist z tr μ xh h hsz hdn hcnt;have:Region.linearise.go .any ops 0 t listed []=[]:=by simp[Region.linearise.go]
  rw[this];refine h.finish fun i hi=>?_
  have h0:=Nat.le_zero.1 hcnt;rw[List.countP_eq_zero]at h0;have:=h0 i (List.mem_range.2 hi);simpa using this
 | succ fuel ih=>
  intro t listed a w done l hist z tr μ xh h hsz hdn hcnt;have hd2:∀j,listed.getD j false=true→∀q,(anc.getD j 0).testBit q=true→listed.getD q false=true:=fun j hj q hq=>by
   rw[hanc]at hq;exact anc_listed hdn j (fun o e ho he hb=>hdn j o e hj ho he hb) hq
  simp only[Region.linearise.go];change Did E M0 w0 N μ0 wS x0 (lone (fat b a (.inRegion ops (match(Region.ready .any ops listed)[t % (Region.ready .any ops listed).length]? with
   | some i=>Region.linearise.go .any ops fuel (t / (Region.ready .any ops listed).length) (listed.setIfInBounds i true) [i]
   | none=>[].reverse)::k)) cs w) b k cs out y
  cases hi:(Region.ready .any ops listed)[t % (Region.ready .any ops listed).length]? with
  | none=>
   simp only[List.reverse_nil];refine h.finish fun i hin=>?_
   cases hli:listed.getD i false with
   | true=>rfl
   | false=>
    exfalso;have hnil:Region.ready .any ops listed=[]:=by
     cases hr:Region.ready .any ops listed with
     | nil=>rfl
     | cons x xs=>
      rw[hr]at hi;have hlt:t % (x::xs).length<(x::xs).length:=Nat.mod_lt _ (by simp)
      rw[aI hlt]at hi;cases hi
    have hex:∃e∈l,listed.getD e.1 false=false:=by
     rcases h.ord.total i hin with hd|⟨e,he,rfl⟩
     ·obtain⟨p,hp,rfl⟩:=cQ.1 hd;rw[h.dn p hp]at hli;cases hli
     ·exact⟨e,he,hli⟩
    obtain⟨l1,e,l2,e1,e2,e3⟩:=tF l hex;have ho:=h.ord;rw[e1]at ho;obtain⟨ei,ek,eo⟩:=e;obtain⟨g1,g2,g3,g4,_⟩:=ho.drop;simp only at e3;have hlt:ei<ops.size:=by rw[←hnn];exact g2
    have hoi:ops[ei]?=some ops[ei]:=gY hlt;have hmem:ei∈Region.ready .any ops listed:=by
     rw[mem_ready];refine⟨by rw[getD_lt (by omega) true false];exact e3,_,hoi,fun e' he' hb=>?_⟩
     have hbit:=anc_edge hoi he' hb;rw[←hanc]at hbit;have hm:=g4 _ hbit;obtain⟨p,hp,hp1⟩:=cQ.1 hm;rw[←hp1];rcases List.mem_append.1 hp with hp|hp
     ·simp only[mH,List.mem_reverse,cQ]at hp;obtain⟨f,hf,rfl⟩:=hp;exact e2 f hf
     ·exact h.dn p hp
    rw[hnil]at hmem;cases hmem
  | some i=>
   simp only;rw[linearise_go_acc,List.reverse_singleton,List.singleton_append];have hmem:=List.mem_of_getElem? hi;obtain⟨h0,o,ho,hallr⟩:=mem_ready.1 hmem;have hlt:i<ops.size:=(Array.getElem?_eq_some_iff.1 ho).1;rw[getD_lt (by omega) true false]at h0
   have hA:∀q,(anc.getD i 0).testBit q=true→listed.getD q false=true:=fun q hq=>by
    rw[hanc]at hq;exact anc_listed hdn i (fun o' e' ho' he' hb'=>by rw[ho]at ho';cases ho';exact hallr e' he' hb') hq
   obtain⟨pre,e,post,htr,rfl⟩:=h.find (by omega) h0 hA
   obtain⟨ao,hao,hco⟩:=hops _ o ho;have hae:ao=e.o:=by
    have:=(h.ord.get e.ent (iX h.can e (by rw[htr];simp))).1
    exact Option.some.inj (hao.symm.trans this)
   subst hae;have hdn':Down ops (listed.setIfInBounds e.i true):=fun j o' e' hj ho' he' hb'=>by
    rw[tC _ _ _ (by omega)]at hj ⊢
    split
    ·rfl
    ·by_cases hji:j=e.i
     ·subst hji;rw[ho]at ho';cases ho';exact hallr e' he' hb'
     ·rw[aD hji]at hj;exact hdn j o' e' hj ho' he' hb'
   have hcnt':=count_set listed n e.i (by omega) (by omega) h0
   by_cases hk:e.o.op.kd=2
   ·rcases h.act (k:=k) (cs:=cs) hcl hM hG hro htr hk (by omega) h0 hA hd2 ho hco (Region.linearise.go .any ops fuel (t / (Region.ready .any ops listed).length) (listed.setIfInBounds e.i true) []) with⟨a',w',done',l',hist',z',tr',μ',xh',hI,hst⟩|hD
    ·exact Did.of_steps hst (ih _ _ a' w' done' l' hist' z' tr' μ' xh' hI (by simpa using hsz) hdn' (by omega))
    ·exact hD
   ·obtain⟨a',w',μ',xh',hI,hst⟩:=h.look (b:=b) (k:=k) (cs:=cs) hG htr hk (by omega) h0 hA hd2 ho hco (Region.linearise.go .any ops fuel (t / (Region.ready .any ops listed).length) (listed.setIfInBounds e.i true) [])
    exact Did.of_steps hst (ih _ _ a' w' done l hist z tr μ' xh' hI (by simpa using hsz) hdn' (by omega))
end
theorem rC:∀(l:List Ent) (t:Tm) (n:Nat),(tget (cX l t) n=tget t n∨tget (cX l t) n = .un)∧((∃e∈l,e.2.1≠0∧e.2.2.dst=some n)→tget (cX l t) n = .un)
 | [],t,n=>⟨.inl rfl,fun⟨o,ho,_⟩=>by cases ho⟩
 | e::r,t,n=>by
  simp only[cX];cases hk:Nat.beq e.2.1 0 with
  | true=>
   simp only[aS];obtain⟨h1,h2⟩:=rC r t n;refine⟨h1,fun⟨q,hq,hq0,hqd⟩=>?_⟩
   rcases bL.1 hq with rfl|hq
   ·exact absurd (aR hk) hq0
   ·exact h2 ⟨q,hq,hq0,hqd⟩
  | false=>
   simp only[cF];obtain⟨h1,h2⟩:=rC r (iI e.2.2.dst t .un) n;by_cases hd:e.2.2.dst=some n
   ·have e1:tget (iI e.2.2.dst t .un) n = .un:=by rw[jP,aH hd]
    have hu:tget (cX r (iI e.2.2.dst t .un)) n = .un:=by
     rcases h1 with h1|h1
     ·rw[h1,e1]
     ·exact h1
    exact⟨.inr hu,fun _=>hu⟩
   ·have e1:tget (iI e.2.2.dst t .un) n=tget t n:=by rw[jP,aD hd]
    refine⟨by rw[e1]at h1;exact h1,fun⟨q,hq,hq0,hqd⟩=>?_⟩
    rcases bL.1 hq with rfl|hq
    ·exact absurd hqd hd
    ·exact h2 ⟨q,hq,hq0,hqd⟩
structure Ctx (E:Env) (cx:Cx) (cl:CL):Prop where
 call:nH E cl
 meth:∀t n f,cx.M t n=some f→oD E.P t n=some f
 glob:cx.G=E.G
 mixed:E.P.follows .mixedOrders=true
section
variable {E:Env} {cx:Cx} {cl:CL} {M0:Nat→Prop} {w0:World} {N:Nat} {μ:Mu} {M:Nat→Prop} {a:Act} {w:World} {x:AS} {b:Frame} {k:List Item} {cs:List Frame}
theorem region_any(H:Ctx E cx cl){ops:Array Oper}{az:List cR}(h:Rel E M0 w0 N μ a w x)(hro:gF b x.r μ)(hc:lD E.P N ops ops.toList=some az){ord:List (Nat×Nat)}
  (hok:mS ops.size (ancs ops.toList []) az ord 0 [] []=true) (hlen:Nat.ble ops.size ord.length=true) {id fuel:Nat} {out:Out} {y:AS}
  (hs:zC (.reg (some ord) (ord.filterMap fun p=>az[p.1]?)) cx cl fuel x = .ok out y) :
  Did E M0 w0 N μ w x (lone (fat b a (.code (.region id ops true)::k)) cs w) b k cs out y:=by
 have hs':sA cx cl x.c (eG ord (ord.filterMap fun p=>az[p.1]?)) [] ⟨cX (eG ord (ord.filterMap fun p=>az[p.1]?)) x.t,x.s,x.c+(ord.filterMap fun p=>az[p.1]?).length,x.d,x.r⟩ = .ok out y:=hs
 obtain⟨hord,hl⟩:=xA ops.size (ancs ops.toList []) az ord 0 [] [] [] (fun j=>by simp) rfl rfl hok
 obtain⟨tr,hcan⟩:=mI hs';have hle:=cO hlen;generalize hL:(ord.filterMap fun p=>az[p.1]?)=L at *
 generalize hZ:eG ord L=Z at *
 let w1:World:={ w with drawn:=w.drawn+1 }
 have hrel:Rel E M0 w0 N μ a w1 ⟨cX Z x.t,x.s,x.c+L.length,x.d,x.r⟩:=
  (h.world (w':=w1) rfl).restrict (fun n=>(rC Z x.t n).1) (fun nm blk hb _=>hb) (Nat.le_add_right _ _) rfl
 have hrep:∀j,(Array.replicate ops.size false).getD j false=false:=fun j=>by
  simp[eJ,Array.getElem?_replicate];split<;>rfl
 have hI:Inv E cx cl M0 w0 N ops.size (ancs ops.toList []) az x μ w out y (Array.replicate ops.size false) a w1 [] Z [] ⟨cX Z x.t,x.s,x.c+L.length,x.d,x.r⟩ tr μ ⟨cX Z x.t,x.s,x.c+L.length,x.d,x.r⟩:={
  ord:=hord
  can:=hcan
  dn:=fun p hp=>by cases hp
  ne:=fun e _ _=>hrep _
  rel:=hrel
  c:=rfl
  d:=rfl
  r:=rfl
  r0:=rfl
  ge:=by rw[hl];exact Nat.add_le_add_left hle _
  tmp1:=fun e _ hl=>by rw[hrep]at hl;cases hl
  tmp2:=fun m _=>rfl
  kil:=fun e he hk0 m hm=>(rC Z x.t m).2 ⟨e,he,hk0,hm⟩
  st1:=fun nm blk hb _=>hb
  st2:=fun e _ hl=>by rw[hrep]at hl;cases hl
  unm:=fun e _ _=>h.free (Nat.le_add_right _ _)
  fr:=⟨aJ _,fun _ _ _=>rfl,fun _ _ hl=>hl,fV.refl μ,Nat.le_add_right _ _,fun _ _ e=>e,nonew⟩ }
 refine Did.of_steps (.one xJ) ?_;simp only[Region.schedule,H.mixed,Bool.true_or,if_true,Region.linearise];refine Inv.run H.call H.meth H.glob hro (fun k o ho=>cOpers_get ops.toList az hc k o (by simpa using ho)) rfl rfl ops.size _ _ a w1 [] _ [] _ tr μ _ hI (by simp) (fun j o e hj=>by rw[hrep]at hj;cases hj) ?_
 exact fW List.countP_le_length (by simp)
theorem run_enter_none{P:Program}{fn:FuncId}{tmps:Array Value}{ps:Array Tmp}{az bd:Code}{w:World}:
  (Instr.enterLoop fn tmps ps az bd none).run P w = .ok (w.heap.size+1,[{ target:=.collected w.heap.size,args:=#[] }])
   { w with heap:=(w.heap.push (.deferred (some []))).push (.loop { state:=.ready,pending:=none,fn,tmps,params:=ps,assign:=az,body:=bd,defers:=w.heap.size }) }:=by
 simp[Instr.enterLoop,newObj,Sem.run];rfl
theorem run_enter_some{P:Program}{fn:FuncId}{tmps:Array Value}{ps:Array Tmp}{az bd:Code}{w:World}{l:Nat}{lo:Loop}(h:w.heap[l]?=some (.loop lo)):
  (Instr.enterLoop fn tmps ps az bd (some l)).run P w = .ok (w.heap.size,[])
   { w with heap:=w.heap.push (.loop { state:=.ready,pending:=none,fn,tmps,params:=ps,assign:=az,body:=bd,defers:=lo.defers }) }:=by
 simp[Instr.enterLoop,Instr.getLoop,newObj,getObj,Sem.run,h]
theorem step_rangeFunc{P:Program}{f:Operand}{ps:Array Tmp}{az bd:Code}{l:Nat}{mark:List Deferred}{w1:World}(hr:(Instr.enterLoop b.fn a.tmps ps az bd b.roundOf).run P w = .ok (l,mark) w1){n:Next}{w2:World}{fr0:Frame}
  (hs:(do let d ←Deferred.ofValue (a.eval f) #[.func (.yield l) #[] #[]];invoke d.target d.args:Sem Next).run P w1 = .ok n w2) (hn:Callee P n fr0) :
  Go.step P (lone (fat b a (.code (.rangeFunc f ps az bd)::k)) cs w) = .next (lone fr0 (fat b { a with defers:=mark++a.defers } (.inRangeFunc l::k)::cs) w2):=by
 refine cV ?_;have he:(fat b { a with defers:=mark++a.defers } (.inRangeFunc l::k)).eval=a.eval:=by funext o;cases o<;>rfl
 have hcall:(do let d ←resolve (fat b { a with defers:=mark++a.defers } (.inRangeFunc l::k)).eval { callee:=.value f,args:=#[.const (.func (.yield l) #[] #[])],argTypes:=#[] } 0;invoke d.target d.args:Sem Next).run P w1 = .ok n w2:=by
  rw[he,←hs];simp[resolve,Act.eval]
 have:=xW (cs:=cs) hcall hn (fr:=fat b { a with defers:=mark++a.defers } (.inRangeFunc l::k)) rfl;rw[←this];simp only[fat]at hr ⊢;simp only[stepG,stepG.exec,Sem.runT_eq,hr,GStep.bare_after]
theorem step_endRange{P:Program}{l:Nat}{jump:Option Code}{w1:World}(hr:(Instr.endLoop l).run P w = .ok jump w1):
  Go.step P (lone (fat b a (.endRangeFunc l::k)) cs w) = .next (lone (fat b a ((jump.map Item.code).toList++k)) cs w1):=by
 refine cV ?_;simp[stepG,stepG.exec,fat,hr]
theorem run_endLoop{P:Program}{l:Nat}{lo:Loop}{w:World}(h:w.heap[l]?=some (.loop lo))(hb:lo.state≠.busy):
  (Instr.endLoop l).run P w = .ok lo.pending { w with heap:=w.heap.setIfInBounds l (.loop { lo with state:=.exhausted }) }:=by
 have hbf:(lo.state==LoopState.busy)=false:=by
  cases hh:lo.state<;>first|rfl|exact absurd hh hb
 simp[Instr.endLoop,Instr.getLoop,getObj,setObj,Sem.run,h,hbf,hb]
theorem rangeEnd(h:Rel E M0 w0 N μ a w x){nm l:Nat}{loc:Loc}(hμ:μ nm=some loc)(hl:loc.blk=some l){out:Out}{y:AS}(hs:lU nm x = .ok out y):
  Did E M0 w0 N μ w x (lone (fat b a (.endRangeFunc l::k)) cs w) b k cs out y:=by
 unfold lU at hs;split at hs
 ·rename_i st pend t ps a' b' hg;have hB:=h.st nm _ loc hμ hg;obtain⟨loc',bk,lo,N',g1,g2,g3,g4,g5,g6,g7,g8,g9,g10,g11,g12⟩:=hB;rw[hμ]at g1;cases g1;rw[hl]at g2;cases g2;have key:st ≠ .busy→∀o,(∃ou:Ou,OuRel (Mm M0 μ) w μ o ou∧ou ≠ .pan []∧(match pend with|none=>o = .normal|some none=>o = .ret|some (some i)=>o = .exit i)) → 
    Did E M0 w0 N μ w x (lone (fat b a (.endRangeFunc l::k)) cs w) b k cs o ⟨x.t,sset x.s nm (.lp .exhausted pend t ps a' b'),x.c,x.d,x.r⟩:=by
   intro hst o ho
   let w':World:={ w with heap:=w.heap.setIfInBounds l (.loop { lo with state:=.exhausted }) }
   have hrun:(Instr.endLoop l).run E.P w = .ok lo.pending w':=run_endLoop g4 (by rw[g5];exact hst)
   have hlt:l<w.heap.size:=(h.own nm loc l hμ hl).2;obtain⟨hx,hR,hf⟩:=h.write nm (.lp .exhausted pend t ps a' b') loc l (w':=w') (x':=⟨x.t,sset x.s nm (.lp .exhausted pend t ps a' b'),x.c,x.d,x.r⟩) hμ hl (by rw[hg];rfl) (by simp[w'])
    (fun q hq=>by simp only[w'];rw[dA (fun e=>hq e.symm)]) (fun n=>rfl) (fun n=>by rw[aN]) rfl rfl
    (fun hx=>⟨loc,l,{ lo with state:=.exhausted },N',hμ,hl,g3,by simp[w',hlt],rfl,g6,g7,g8,g9,g10,g11,fun n=>aP.mono hx _ _ (fV.refl _) (g12 n)⟩)
   have hst:=step_endRange (b:=b) (a:=a) (k:=k) (cs:=cs) hrun;rw[g6]at hst;obtain⟨ou,_,_,ho⟩:=ho;cases pend with
   | none=>subst ho;exact⟨a,w',μ,.normal,hR,hf,rfl,rfl,.one hst⟩
   | some j=>cases j with
    | none=>subst ho;exact⟨a,w',μ,.ret,hR,hf,rfl,rfl,k,.one hst⟩
    | some i=>subst ho;exact⟨a,w',μ,.exit i,hR,hf,rfl,rfl,k,rfl,.one hst⟩
  cases hst:st with
  | busy=>rw[hst]at hs;cases hs
  | _=>
   rw[hst]at hs;subst hst;cases pend with
   | none=>cases hs;exact key (by simp) _ ⟨.normal,rfl,by simp,rfl⟩
   | some j=>cases j with
    | none=>cases hs;exact key (by simp) _ ⟨.ret,rfl,by simp,rfl⟩
    | some i=>cases hs;exact key (by simp) _ ⟨.exit i,rfl,by simp,rfl⟩
 ·cases hs
end
section
variable {E:Env} {cx:Cx} {cl:CL} {M0:Nat→Prop} {w0:World} {N:Nat} {μ:Mu} {M:Nat→Prop} {a:Act} {w:World} {x:AS} {b:Frame} {k:List Item} {cs:List Frame}
theorem range_call(H:Ctx E cx cl){fo:Operand}{g:Arg}(hg:cS fo=some g){ps:Array Tmp}{az bd:Code}{l:Nat}{mark:List Deferred}{w1:World}(hr:(Instr.enterLoop b.fn a.tmps ps az bd b.roundOf).run E.P w = .ok (l,mark) w1)
  {μ1:Mu} {x1:AS} (h1:Rel E M0 w0 N μ1 { a with defers:=mark++a.defers } w1 x1) (hf1:Fr x.c x.s μ w x1.c x1.s μ1 w1) (ht:x1.t=x.t) (hrr:x1.r=x.r) {nm:Nat} {loc:Loc} (hμ:μ1 nm=some loc) (hl:loc.blk=some l)
  {out:Out} {y:AS} (hs:zbind (kN cx cl none x1 (g.ev cx.G x.t) [.yl nm]) (lU nm) = .ok out y) :
  Did E M0 w0 N μ w x (lone (fat b a (.code (.rangeFunc fo ps az bd)::k)) cs w) b k cs out y:=by
 rw[vN]at hs;obtain⟨o,z,hb,ho⟩:=zbind_inv hs;obtain⟨fo',s,c,hraw,hz⟩:=back_inv hb;have hv:=cP h1 hg;rw[ht,←H.glob]at hv;have he:({ a with defers:=mark++a.defers }:Act).eval fo=a.eval fo:=by cases fo<;>rfl
 rw[he]at hv;obtain⟨n,w2,fr0,hrun,hn,hdel⟩:=raw_sound H.call H.meth h1.toS hv (args:=[.yl nm]) (vals:=#[.func (.yield l) #[] #[]]) (aX.cons (by simp only[aP];exact⟨loc,l,hμ,hl,rfl⟩) aX.nil) hraw
 have hstep:=step_rangeFunc (b:=b) (a:=a) (k:=k) (cs:=cs) hr hrun hn;obtain⟨e,w3,⟨μ3,hS,hf3,hfo⟩,hst⟩:=hdel (fat b { a with defers:=mark++a.defers } (.inRangeFunc l::k)) cs;have hR:=h1.carry hS hf3;have hfall:=hf1.trans hf3;rcases hz with⟨d,rfl,rfl,rfl⟩|⟨ch,rfl,rfl,rfl⟩
 ·obtain⟨v,rfl,_⟩:=hfo;rcases ho with⟨_,ho⟩|⟨hne,_⟩
  ·have hμ3:μ3 nm=some loc:=hf3.mu _ _ hμ;obtain⟨a',w',μ',ou,r1,r2,r3,r4,r5⟩:=rangeEnd (b:=b) (k:=k) (cs:=cs) hR hμ3 hl ho;exact⟨a',w',μ',ou,r1,hfall.trans r2,r3.trans hrr,r4,r5.of_steps (.head hstep hst)⟩
  ·exact absurd rfl hne
 ·obtain⟨chain,rfl,hc⟩:=hfo;rcases ho with⟨hne,_⟩|⟨_,rfl,rfl⟩
  ·cases hne
  ·exact⟨_,w3,μ3,.pan chain,hR,hfall,hrr,⟨chain,rfl,hc⟩,_,rfl,.head hstep hst⟩
theorem range_did(H:Ctx E cx cl)(h:Rel E M0 w0 N μ a w x)(hro:gF b x.r μ){fo:Operand}{g:Arg}(hg:cS fo=some g){ps:Array Tmp}{az bd:Code}{a' b':AC}(ha:comp E.P N az=some a')(hb:comp E.P N bd=some b')
  (hps:(ps.toList.all fun p=>Nat.blt p N)=true) {fuel:Nat} {out:Out} {y:AS} (hs:zC (.rfn g ps.toList a' b') cx cl fuel x = .ok out y) :
  Did E M0 w0 N μ w x (lone (fat b a (.code (.rangeFunc fo ps az bd)::k)) cs w) b k cs out y:=by
 have hs':zc_rfn g ps.toList a' b' (zC a') (zC b') cx cl fuel x = .ok out y:=hs;unfold zc_rfn at hs';cases hr:x.r with
 | none=>
  rw[hr]at hs' hro;simp only at hs';have hro':b.roundOf=none:=hro
  let wA:World:={ w with heap:=w.heap.push (.deferred (some [])) }
  obtain⟨hx1,hR1,hf1⟩:=h.fresh x.c (aJ _) .dfd (.deferred (some [])) 0 (w':=wA) (x':=⟨x.t,sadd x.s x.c .dfd,x.c+1,x.d,x.r⟩) rfl (fun _=>rfl) (fun n=>aW _ _ _ _) rfl rfl
   (fun hx hM=>⟨⟨some w.heap.size,0⟩,w.heap.size,by simp[dR],rfl,hM,by simp[wA]⟩)
  let lo:Loop:={ state:=.ready,pending:=none,fn:=b.fn,tmps:=a.tmps,params:=ps,assign:=az,body:=bd,defers:=w.heap.size }
  let w1:World:={ w with heap:=(w.heap.push (.deferred (some []))).push (.loop lo) }
  have hsz:wA.heap.size=w.heap.size+1:=by simp[wA]
  obtain⟨hx2,hR2,hf2⟩:=hR1.fresh (x.c+1) (aJ _) (.lp .ready none x.t ps.toList a' b') (.loop lo) 0 (w':=w1) (x':=⟨x.t,sadd (sadd x.s x.c .dfd) (x.c+1) (.lp .ready none x.t ps.toList a' b'),x.c+2,x.d,none⟩) rfl
   (fun _=>rfl) (fun n=>aW _ _ _ _) rfl rfl
   (fun hx hM=>⟨⟨some wA.heap.size,0⟩,wA.heap.size,lo,N,by simp[dR],rfl,hM,Array.getElem?_push_size,rfl,rfl,rfl,hps,ha,hb,h.n,fun n=>
    aP.mono hx _ _ (hR1.free_le (aJ _) _) (hR1.tm n)⟩)
  let μ1:=dR (dR μ x.c (some ⟨some w.heap.size,0⟩)) (x.c+1) (some ⟨some wA.heap.size,0⟩)
  have hrun:(Instr.enterLoop b.fn a.tmps ps az bd b.roundOf).run E.P w = .ok (w.heap.size+1,[{ target:=.collected w.heap.size,args:=#[] }]) w1:=by
   rw[hro'];exact run_enter_none
  refine range_call H hg hrun (μ1:=μ1) (x1:=⟨x.t,sadd (sadd x.s x.c .dfd) (x.c+1) (.lp .ready none x.t ps.toList a' b'),x.c+2,(.it x.c,[])::x.d,none⟩) ?_ (hf1.trans hf2) rfl hr.symm (nm:=x.c+1)
   (loc:=⟨some (w.heap.size+1),0⟩) (by simp[μ1,dR,hsz]) rfl hs'
  refine hR2.toS.frame hR2.n hR2.tm ?_;simp only[cD,cA,iL];exact⟨⟨some w.heap.size,0⟩,w.heap.size,a.defers,by simp[dR],rfl,rfl,hR2.defers⟩
 | some l0=>
  rw[hr]at hs';simp only at hs';split at hs'
  ·rename_i st pd t0 ps0 a0 b0 hg0;rw[hr]at hro;obtain⟨loc0,l',k1,k2,k3⟩:=hro;obtain⟨loc',bk,lo0,N',g1,g2,g3,g4,_⟩:=h.st l0 _ loc0 k1 hg0;rw[k1]at g1;cases g1;rw[k2]at g2;cases g2
   let lo:Loop:={ state:=.ready,pending:=none,fn:=b.fn,tmps:=a.tmps,params:=ps,assign:=az,body:=bd,defers:=lo0.defers }
   let w1:World:={ w with heap:=w.heap.push (.loop lo) }
   obtain⟨hx2,hR2,hf2⟩:=h.fresh x.c (aJ _) (.lp .ready none x.t ps.toList a' b') (.loop lo) 0 (w':=w1) (x':=⟨x.t,sadd x.s x.c (.lp .ready none x.t ps.toList a' b'),x.c+1,x.d,some l0⟩) rfl
    (fun _=>rfl) (fun n=>aW _ _ _ _) rfl rfl
    (fun hx hM=>⟨⟨some w.heap.size,0⟩,w.heap.size,lo,N,by simp[dR],rfl,hM,by simp[w1],rfl,rfl,rfl,hps,ha,hb,h.n,fun n=>
     aP.mono hx _ _ (h.free_le (aJ _) _) (h.tm n)⟩)
   have hrun:(Instr.enterLoop b.fn a.tmps ps az bd b.roundOf).run E.P w = .ok (w.heap.size,[]) w1:=by
    rw[k3];exact run_enter_some g4
   exact range_call H hg hrun (x1:=⟨x.t,sadd x.s x.c (.lp .ready none x.t ps.toList a' b'),x.c+1,x.d,some l0⟩) hR2 hf2 rfl hr.symm (nm:=x.c) (loc:=⟨some w.heap.size,0⟩) (by simp[dR]) rfl hs'
  ·cases hs'
theorem zblk_inv{id:Nat}{r:R}{out:Out}{y:AS}(h:(R.rec .no (zblk id) r:R) = .ok out y):
  ∃o,r = .ok o y∧((o = .normal∧out = .normal)∨(∃i,o = .exit i∧((i=id∧out = .normal)∨(i≠id∧out = .exit i)))∨(o = .ret∧out = .ret)∨∃c,o = .pan c∧out = .pan c):=by
 cases r with
 | no=>cases h
 | ok o z=>
  have h':zblk id o z = .ok out y:=h;cases o with
  | normal=>cases h';exact⟨_,rfl,.inl ⟨rfl,rfl⟩⟩
  | exit i=>
   have h2:(Bool.rec (.ok (.exit i) z) (.ok .normal z) (Nat.beq i id):R) = .ok out y:=h';cases hb:Nat.beq i id<;>rw[hb]at h2
   ·cases h2;exact⟨_,rfl,.inr (.inl ⟨i,rfl,.inr ⟨fun e=>by subst e;simp at hb,rfl⟩⟩)⟩
   ·cases h2;exact⟨_,rfl,.inr (.inl ⟨i,rfl,.inl ⟨aR hb,rfl⟩⟩)⟩
  | ret=>cases h';exact⟨_,rfl,.inr (.inr (.inl ⟨rfl,rfl⟩))⟩
  | pan c=>cases h';exact⟨_,rfl,.inr (.inr (.inr ⟨c,rfl,rfl⟩))⟩
theorem block_did{c:Code}{id:Nat}{r:R}{out:Out}{y:AS}(hs:(R.rec .no (zblk (2*id)) r:R) = .ok out y)
  (hbody:∀o z,r = .ok o z→Did E M0 w0 N μ w x (lone (fat b a (.code c :: .inBlock id::k)) cs w) b (.inBlock id::k) cs o z) :
  Did E M0 w0 N μ w x (lone (fat b a (.code (.block id c)::k)) cs w) b k cs out y:=by
 obtain⟨o,hr,ho⟩:=zblk_inv hs;refine Did.of_steps (.one fstep_block) ?_;obtain⟨a',w',μ',ou,r1,r2,r3,r4,r5⟩:=hbody o y hr;rcases ho with⟨rfl,rfl⟩|⟨i,rfl,hi⟩|⟨rfl,rfl⟩|⟨c,rfl,rfl⟩
 ·cases r4;exact⟨a',w',μ',.normal,r1,r2,r3,rfl,fB r5 (.one uX)⟩
 ·cases r4;obtain⟨todo,t1,t2⟩:=r5;rcases hi with⟨rfl,rfl⟩|⟨hne,rfl⟩
  ·exact⟨a',w',μ',.normal,r1,r2,r3,rfl,fB t2 (.one (vH (t1.trans (xH id k))))⟩
  ·exact⟨a',w',μ',.exit i,r1,r2,r3,rfl,todo,t1.trans (rV hne k),t2⟩
 ·cases r4;exact⟨a',w',μ',.ret,r1,r2,r3,rfl,r5⟩
 ·obtain⟨ch,rfl,hc⟩:=r4;exact⟨a',w',μ',.pan ch,r1,r2,r3,⟨ch,rfl,hc⟩,r5⟩
theorem loop_did{c:Code}{f:AS→R}:∀(n:Nat) {μ:Mu} {a:Act} {w:World} {x:AS} {out:Out} {y:AS},
  (∀{μ:Mu} {a:Act} {w:World} {x:AS} {out:Out} {y:AS},Rel E M0 w0 N μ a w x→gF b x.r μ→f x = .ok out y→Did E M0 w0 N μ w x (lone (fat b a (.code c :: .inLoop c::k)) cs w) b (.inLoop c::k) cs out y) →
  Rel E M0 w0 N μ a w x→gF b x.r μ→zloop n f x = .ok out y→Did E M0 w0 N μ w x (lone (fat b a (.code c :: .inLoop c::k)) cs w) b k cs out y
 | 0,μ,a,w,x,out,y,_,_,_,hs=>by cases hs
 | n+1,μ,a,w,x,out,y,hf,h,hro,hs=>by
  have hs':zbind (f x) (zloop n f) = .ok out y:=hs;refine Did.zbind (it:=.inLoop c) (fun _=>rfl) hs' (fun o z hz=>hf h hro hz) (fun z a' w' μ' g1 g2 g3 hz=>?_)
  exact Did.of_steps (.one xK) (loop_did n hf g1 (by rw[g3];exact hro.mono g2) hz)
theorem stuck_no(cx:Cx)(cl:CL)(fuel:Nat)(x:AS):zC stuckC cx cl fuel x = .no:=rfl
theorem lab_of{P:Program}:∀(c:Code) {ac:AC},comp P N c=some ac→∀{l:Nat} {rest:Code},findLabel c l=some rest→(2*l+1)∈pJ ac∧iO ac (2*l+1)≠none:=by
 intro c
 induction c with
 | label l'=>
  intro ac hc l rest h;simp only[comp,aC]at hc;subst hc;simp only[findLabel]at h;split at h
  ·rename_i he;have he':l'=l:=by simpa using he
   subst he';have h1:(2*l'+1) % 2=1:=by omega
   simp[pJ,iO,h1]
  ·cases h
 | seq p q ihp ihq=>
  intro ac hc l rest h;simp only[comp,aB,aA,aC]at hc;obtain⟨p',hp,q',hq,rfl⟩:=hc;simp only[findLabel]at h;simp only[pJ,iO,List.mem_append];split at h
  ·rename_i r1 h1;obtain⟨g1,g2⟩:=ihp hp h1;refine⟨.inl g1,?_⟩;cases hr:iO p' (2*l+1) with
   | none=>exact absurd hr g2
   | some r=>simp
  ·obtain⟨g1,g2⟩:=ihq hq h;refine⟨.inr g1,?_⟩;cases hr:iO p' (2*l+1) with
   | none=>exact g2
   | some r=>simp
 | _=>intro ac hc l rest h;simp[findLabel]at h
theorem rest_of{P:Program}:∀(c:Code) {ac:AC},comp P N c=some ac→∀{n:Nat} {r:AC},iO ac n=some r→∃l rest,n=2*l+1∧findLabel c l=some rest∧comp P N rest=some r:=by
 intro c
 induction c with
 | label l=>
  intro ac hc n r h;simp only[comp,aC]at hc;subst hc;simp only[iO]at h;cases hb:(Nat.beq (2*l+1) n&&Nat.beq (n % 2) 1)<;>rw[hb]at h
  ·cases h
  simp only[bE]at hb;cases h;exact⟨l,.skip,(aR hb.1).symm,by simp[findLabel],rfl⟩
 | seq p q ihp ihq=>
  intro ac hc n r h;simp only[comp,aB,aA,aC]at hc;obtain⟨p',hp,q',hq,rfl⟩:=hc;simp only[iO]at h;split at h
  ·rename_i r' hr';cases h;obtain⟨l,rest,h1,h2,h3⟩:=ihp hp hr';exact⟨l,.seq rest q,h1,by simp[findLabel,h2],by simp[comp,h3,hq]⟩
  ·rename_i hn;obtain⟨l,rest,h1,h2,h3⟩:=ihq hq h;refine⟨l,rest,h1,?_,h3⟩;have:findLabel p l=none:=by
    cases hf:findLabel p l with
    | none=>rfl
    | some z=>exact absurd (h1▸hn) (lab_of p hp hf).2
   simp[findLabel,this,h2]
 | block id p ih=>
  intro ac hc n r h;simp only[comp,aB,aA,aC]at hc;obtain⟨p',hp,rfl⟩:=hc;cases p'<;>simp only[iO,reduceCtorEq]at h
  cases hb:(Nat.beq (2*id) n&&Nat.beq (n % 2) 1)<;>rw[hb]at h
  ·cases h
  simp only[bE]at hb;have h1:=aR hb.1;have h2:=aR hb.2;omega
 | skip=>intro ac hc n r h;simp only[comp,aC]at hc;subst hc;simp only[iO,reduceCtorEq]at h
 | exit id=>intro ac hc n r h;simp only[comp,aC]at hc;subst hc;simp only[iO,reduceCtorEq]at h
 | goto l=>intro ac hc n r h;simp only[comp,aC]at hc;subst hc;simp only[iO,reduceCtorEq]at h
 | ret=>intro ac hc n r h;simp only[comp,aC]at hc;subst hc;simp only[iO,reduceCtorEq]at h
 | refuse s=>intro ac hc;simp[comp]at hc
 | loop p ih=>
  intro ac hc n r h;simp only[comp,aB,aA,aC]at hc;obtain⟨p',hp,rfl⟩:=hc;simp only[iO,reduceCtorEq]at h
 | scope p ih=>
  intro ac hc n r h;simp only[comp,aB,aA,aC]at hc;obtain⟨p',hp,rfl⟩:=hc;simp only[iO,reduceCtorEq]at h
 | cond c p q ihp ihq=>
  intro ac hc n r h;simp only[comp,aB,aA,aC]at hc;obtain⟨c',hcc,rfl⟩:=hc;simp only[iO,reduceCtorEq]at h
 | region id ops draw=>
  intro ac hc n r h;simp only[comp,aB,aA]at hc;obtain⟨l,hl,hc⟩:=hc;cases draw with
  | false=>
   simp only[cF,aC]at hc;subst hc;simp only[iO,reduceCtorEq]at h
  | true=>
   simp only[aS]at hc;cases hok:(mS ops.size (ancs ops.toList []) l (nU (ancs ops.toList []) (l.map fun o=>o.op.kd)) 0 [] []&&Nat.ble ops.size (nU (ancs ops.toList []) (l.map fun o=>o.op.kd)).length)<;>rw[hok]at hc
   ·cases hc
   ·simp only[aS,aC]at hc;subst hc;simp only[iO,reduceCtorEq]at h
 | rangeFunc f ps p q ihp ihq=>
  intro ac hc n r h;simp only[comp,aB,aA]at hc;obtain⟨g,hg,p',hp,q',hq,hc⟩:=hc;cases hps:(ps.toList.all fun p=>Nat.blt p N)<;>rw[hps]at hc
  ·cases hc
  ·simp only[aS,aC]at hc;subst hc;simp only[iO,reduceCtorEq]at h
def CD(E:Env)(cx:Cx)(cl:CL)(M0:Nat→Prop)(w0:World)(N:Nat)(cs:List Frame)(c:Code):Prop:=
 ∀{ac:AC},comp E.P N c=some ac→∀{fuel:Nat} {μ:Mu} {a:Act} {w:World} {x:AS} {b:Frame} {k:List Item} {out:Out} {y:AS},Rel E M0 w0 N μ a w x→gF b x.r μ →
  zC ac cx cl fuel x = .ok out y→Did E M0 w0 N μ w x (lone (fat b a (.code c::k)) cs w) b k cs out y
theorem skip_did:CD E cx cl M0 w0 N cs .skip:=by
 intro ac hc fuel μ a w x b k out y h hro hs;simp only[comp,aC]at hc;subst hc;have hs':R.ok .normal x = .ok out y:=hs;cases hs';exact⟨a,w,μ,.normal,h,Fr.refl _ _ _ _,rfl,rfl,.one fstep_skip⟩
theorem seq_did{p q:Code}(ihp:CD E cx cl M0 w0 N cs p)(ihq:CD E cx cl M0 w0 N cs q):CD E cx cl M0 w0 N cs (.seq p q):=by
 intro ac hc fuel μ a w x b k out y h hro hs;simp only[comp,aB,aA,aC]at hc;obtain⟨p',hp,q',hq,rfl⟩:=hc;have hs':zbind (zC p' cx cl fuel x) (zC q' cx cl fuel) = .ok out y:=hs;refine Did.of_steps (.one fstep_seq) ?_
 exact Did.zbind (it:=.code q) (fun _=>rfl) hs' (fun o z hz=>ihp hp h hro hz) (fun z a' w' μ' g1 g2 g3 hz=>ihq hq g1 (by rw[g3];exact hro.mono g2) hz)
theorem lab_did{p rest:Code}{n l:Nat}(hn:n=2*l+1)(hf:findLabel p l=some rest){f:AS→R}{G:Out→Prop}
  (hrest:∀{μ:Mu} {a:Act} {w:World} {x:AS} {out:Out} {y:AS},Rel E M0 w0 N μ a w x→gF b x.r μ→f x = .ok out y →
   Did E M0 w0 N μ w x (lone (fat b a (.code rest :: .inScope p::k)) cs w) b (.inScope p::k) cs out y∧G out) :
  ∀(m:Nat) {r0:R} {μ:Mu} {w:World} {x:AS} {mch:Machine} {out:Out} {y:AS},gF b x.r μ →
   (∀o z,r0 = .ok o z→Did E M0 w0 N μ w x mch b (.inScope p::k) cs o z∧G o)→zlab m n f r0 = .ok out y →
   Did E M0 w0 N μ w x mch b (.inScope p::k) cs out y∧out≠.exit n∧G out:=by
 intro m
 induction m with
 | zero=>
  intro r0 μ w x mch out y hro h0 hs;have hs':zlab_0 n f r0 = .ok out y:=hs;unfold zlab_0 at hs';cases r0 with
  | no=>cases hs'
  | ok o z=>
   obtain⟨g1,g2⟩:=h0 o z rfl;cases o with
   | exit i=>
    simp only at hs';cases hb:Nat.beq i n<;>rw[hb]at hs'
    ·cases hs';exact⟨g1,fun e=>by cases e;simp at hb,g2⟩
    ·cases hs'
   | normal=>cases hs';exact⟨g1,nofun,g2⟩
   | ret=>cases hs';exact⟨g1,nofun,g2⟩
   | pan c=>cases hs';exact⟨g1,nofun,g2⟩
 | succ m ih=>
  intro r0 μ w x mch out y hro h0 hs;have hs':zlab_s m (fun n f r=>zlab m n f r) n f r0 = .ok out y:=hs
  unfold zlab_s at hs';cases r0 with
  | no=>cases hs'
  | ok o z=>
   obtain⟨g1,g2⟩:=h0 o z rfl;cases o with
   | exit i=>
    simp only at hs';cases hb:Nat.beq i n<;>rw[hb]at hs'
    ·cases hs';exact⟨g1,fun e=>by cases e;simp at hb,g2⟩
    ·have hi:=aR hb;subst hi;simp only[aS]at hs';obtain⟨a1,w1,μ1,ou1,r1,f1,e1,o1,n1⟩:=g1;cases o1;obtain⟨todo,t1,t2⟩:=n1;have hj:iA i todo=some (.code rest :: .inScope p::k):=by
      rw[t1,hn,jumpTo_odd];simp[gotoIn,hf]
     have hro1:gF b z.r μ1:=by rw[e1];exact hro.mono f1.mu
     obtain⟨q1,q2,q3⟩:=ih (w:=w1) (x:=z) (mch:=lone (fat b a1 (.code rest :: .inScope p::k)) cs w1) hro1 (fun o z' hz=>hrest r1 hro1 hz) hs'
     refine⟨?_,q2,q3⟩;obtain⟨a2,w2,μ2,ou2,r2,f2,e2,o2,n2⟩:=q1;exact⟨a2,w2,μ2,ou2,r2,f1.trans f2,e2.trans e1,o2,n2.of_steps (fB t2 (.one (vH hj)))⟩
   | normal=>cases hs';exact⟨g1,nofun,g2⟩
   | ret=>cases hs';exact⟨g1,nofun,g2⟩
   | pan c=>cases hs';exact⟨g1,nofun,g2⟩
theorem wrap_did{p:Code}{p':AC}(hp:comp E.P N p=some p')(hQ:∀l rest,findLabel p l=some rest→CD E cx cl M0 w0 N cs rest):∀(ns:List Nat) {c':Code} {x':AC},comp E.P N c'=some x'→CD E cx cl M0 w0 N cs c' →
  ∀{fuel:Nat} {μ:Mu} {a:Act} {w:World} {x:AS} {b:Frame} {k:List Item} {out:Out} {y:AS},Rel E M0 w0 N μ a w x→gF b x.r μ→zC (lV p' ns x') cx cl fuel x = .ok out y →
   Did E M0 w0 N μ w x (lone (fat b a (.code c' :: .inScope p::k)) cs w) b (.inScope p::k) cs out y∧∀n∈ns,out≠.exit n
 | [],c',x',hc,hcd,fuel,μ,a,w,x,b,k,out,y,h,hro,hs=>⟨hcd hc h hro hs,fun n hn=>by cases hn⟩
 | n::ns,c',x',hc,hcd,fuel,μ,a,w,x,b,k,out,y,h,hro,hs=>by
  unfold lV at hs;cases hr:iO p' n with
  | none=>rw[hr]at hs;cases(stuck_no cx cl fuel x).symm.trans hs
  | some r=>
   rw[hr]at hs;obtain⟨l,rest,hn,hf,hcr⟩:=rest_of p hp hr;have hs':zlab fuel n (zC (lV p' ns r) cx cl fuel) (zC (lV p' ns x') cx cl fuel x) = .ok out y:=hs;obtain⟨q1,q2,q3⟩:=lab_did (G:=fun o=>∀n∈ns,o≠.exit n) hn hf (fun h hro hz=>wrap_did hp hQ ns hcr (hQ l rest hf) h hro hz) fuel (mch:=lone (fat b a (.code c' :: .inScope p::k)) cs w) hro
    (fun o z hz=>wrap_did hp hQ ns hc hcd h hro hz) hs'
   refine⟨q1,fun n' hn'=>?_⟩
   rcases bL.1 hn' with rfl|hn'
   ·exact q2
   ·exact q3 n' hn'
theorem scope_did{p:Code}(hcd:CD E cx cl M0 w0 N cs p)(hQ:∀l rest,findLabel p l=some rest→CD E cx cl M0 w0 N cs rest):CD E cx cl M0 w0 N cs (.scope p):=by
 intro ac hc fuel μ a w x b k out y h hro hs;simp only[comp,aB,aA,aC]at hc;obtain⟨p',hp,rfl⟩:=hc;have hs':zC (lV p' (pJ p') p') cx cl fuel x = .ok out y:=hs;refine Did.of_steps (.one tD) ?_;obtain⟨hD,hne⟩:=wrap_did hp hQ (pJ p') hp hcd (k:=k) h hro hs';by_cases ho:out = .normal
 ·subst ho;refine hD.bind fun a' w' μ' g1 g2 g3=>?_
  exact⟨a',w',μ',.normal,g1,Fr.refl _ _ _ _,rfl,rfl,.one pL⟩
 ·cases out with
  | exit i=>
   obtain⟨a1,w1,μ1,ou1,r1,f1,e1,o1,n1⟩:=hD;cases o1;obtain⟨todo,t1,t2⟩:=n1;refine⟨a1,w1,μ1,.exit i,r1,f1,e1,rfl,todo,t1.trans (rE (fun l hl=>?_) k),t2⟩
   cases hf:findLabel p l with
   | none=>rfl
   | some z=>exact absurd rfl (hl▸hne _ (lab_of p hp hf).1)
  | normal=>exact absurd rfl ho
  | ret=>
   obtain⟨a1,w1,μ1,ou1,r1,f1,e1,o1,n1⟩:=hD;cases o1;exact⟨a1,w1,μ1,.ret,r1,f1,e1,rfl,n1⟩
  | pan c=>
   obtain⟨a1,w1,μ1,ou1,r1,f1,e1,o1,n1⟩:=hD;obtain⟨ch,rfl,hc⟩:=o1;exact⟨a1,w1,μ1,.pan ch,r1,f1,e1,⟨ch,rfl,hc⟩,n1⟩
theorem code_did2(H:Ctx E cx cl):∀(c:Code),CD E cx cl M0 w0 N cs c∧∀l rest,findLabel c l=some rest→CD E cx cl M0 w0 N cs rest:=by
 intro c
 induction c with
 | skip=>exact⟨skip_did,fun l rest h=>by simp[findLabel]at h⟩
 | label l=>
  refine⟨?_,fun l' rest h=>?_⟩
  ·intro ac hc fuel μ a w x b k out y h hro hs;simp only[comp,aC]at hc;subst hc;have hs':R.ok .normal x = .ok out y:=hs;cases hs';exact⟨a,w,μ,.normal,h,Fr.refl _ _ _ _,rfl,rfl,.one fstep_label⟩
  ·simp only[findLabel]at h;split at h
   ·cases h;exact skip_did
   ·cases h
 | seq p q ihp ihq=>
  refine⟨seq_did ihp.1 ihq.1,fun l rest h=>?_⟩
  simp only[findLabel]at h;split at h
  ·rename_i r hr;cases h;exact seq_did (ihp.2 l r hr) ihq.1
  ·exact ihq.2 l rest h
 | scope p ih=>exact⟨scope_did ih.1 ih.2,fun l rest h=>by simp[findLabel]at h⟩
 | region id ops draw=>
  refine⟨?_,fun l rest h=>by simp[findLabel]at h⟩
  intro ac hc fuel μ a w x b k out y h hro hs;simp only[comp,aB,aA]at hc;obtain⟨l,hl,hc⟩:=hc;cases draw with
  | false=>
   simp only[cF,aC]at hc;subst hc;exact region_did H.call H.meth H.glob h hro hl hs
  | true=>
   simp only[aS]at hc;cases hok:(mS ops.size (ancs ops.toList []) l (nU (ancs ops.toList []) (l.map fun o=>o.op.kd)) 0 [] []&&Nat.ble ops.size (nU (ancs ops.toList []) (l.map fun o=>o.op.kd)).length)<;>rw[hok]at hc
   ·cases hc
   ·simp only[aS,aC]at hc;subst hc;simp only[bE]at hok;exact region_any H h hro hl hok.1 hok.2 hs
 | cond c p q ihp ihq=>
  obtain⟨ihp,_⟩:=ihp;obtain⟨ihq,_⟩:=ihq;refine⟨?_,fun l rest h=>by simp[findLabel]at h⟩
  intro ac hc fuel μ a w x b k out y h hro hs;simp only[comp,aB,aA,aC]at hc;obtain⟨c',hcc,rfl⟩:=hc;have hs':vV c' (mT (comp E.P N p)) (mT (comp E.P N q)) (zC (mT (comp E.P N p))) (zC (mT (comp E.P N q))) cx cl fuel x = .ok out y:=hs;unfold vV at hs';have hv:=cP h hcc;rw[H.glob]at hs';split at hs'
  ·rename_i r he;rw[he]at hv;simp only[aP]at hv;refine Did.of_steps (.one (vI hv)) ?_;cases r with
   | true=>
    have hs2:zC (mT (comp E.P N p)) cx cl fuel x = .ok out y:=hs';cases hp:comp E.P N p with
    | none=>rw[hp]at hs2;cases(stuck_no cx cl fuel x).symm.trans hs2
    | some p'=>rw[hp]at hs2;exact ihp hp h hro hs2
   | false=>
    have hs2:zC (mT (comp E.P N q)) cx cl fuel x = .ok out y:=hs';cases hq:comp E.P N q with
    | none=>rw[hq]at hs2;cases(stuck_no cx cl fuel x).symm.trans hs2
    | some q'=>rw[hq]at hs2;exact ihq hq h hro hs2
  ·cases hs'
 | block id p ih=>
  obtain⟨ih,_⟩:=ih;refine⟨?_,fun l rest h=>by simp[findLabel]at h⟩
  intro ac hc fuel μ a w x b k out y h hro hs;simp only[comp,aB,aA,aC]at hc;obtain⟨p',hp,rfl⟩:=hc;exact block_did (r:=zC p' cx cl fuel x) hs fun o z hz=>ih hp h hro hz
 | loop p ih=>
  obtain⟨ih,_⟩:=ih;refine⟨?_,fun l rest h=>by simp[findLabel]at h⟩
  intro ac hc fuel μ a w x b k out y h hro hs;simp only[comp,aB,aA,aC]at hc;obtain⟨p',hp,rfl⟩:=hc;have hs':zloop fuel (zC p' cx cl fuel) x = .ok out y:=hs;exact Did.of_steps (.one fstep_loop) (loop_did fuel (fun h hro hz=>ih hp h hro hz) h hro hs')
 | exit id=>
  refine⟨?_,fun l rest h=>by simp[findLabel]at h⟩
  intro ac hc fuel μ a w x b k out y h hro hs;simp only[comp,aC]at hc;subst hc;have hs':R.ok (.exit (2*id)) x = .ok out y:=hs;cases hs';exact⟨a,w,μ,.exit (2*id),h,Fr.refl _ _ _ _,rfl,rfl,k,rfl,by rw[jumpC_even];exact .refl _ _⟩
 | goto l=>
  refine⟨?_,fun l rest h=>by simp[findLabel]at h⟩
  intro ac hc fuel μ a w x b k out y h hro hs;simp only[comp,aC]at hc;subst hc;have hs':R.ok (.exit (2*l+1)) x = .ok out y:=hs;cases hs';exact⟨a,w,μ,.exit (2*l+1),h,Fr.refl _ _ _ _,rfl,rfl,k,rfl,by rw[jumpC_odd];exact .refl _ _⟩
 | ret=>
  refine⟨?_,fun l rest h=>by simp[findLabel]at h⟩
  intro ac hc fuel μ a w x b k out y h hro hs;simp only[comp,aC]at hc;subst hc;have hs':R.ok .ret x = .ok out y:=hs;cases hs';exact⟨a,w,μ,.ret,h,Fr.refl _ _ _ _,rfl,rfl,k,.refl _ _⟩
 | rangeFunc f ps p q ihp ihq=>
  refine⟨?_,fun l rest h=>by simp[findLabel]at h⟩
  intro ac hc fuel μ a w x b k out y h hro hs;simp only[comp,aB,aA]at hc;obtain⟨g,hg,p',hp,q',hq,hc⟩:=hc;cases hps:(ps.toList.all fun p=>Nat.blt p N)<;>rw[hps]at hc
  ·cases hc
  ·simp only[aS,aC]at hc;subst hc;exact range_did H h hro hg hp hq hps hs
 | refuse s=>exact⟨fun hc=>by simp[comp]at hc,fun l rest h=>by simp[findLabel]at h⟩
theorem pV(H:Ctx E cx cl):∀(c:Code) {ac:AC},comp E.P N c=some ac→∀{fuel:Nat} {μ:Mu} {a:Act} {w:World} {x:AS} {b:Frame} {k:List Item} {out:Out} {y:AS},Rel E M0 w0 N μ a w x→gF b x.r μ →
  zC ac cx cl fuel x = .ok out y→Did E M0 w0 N μ w x (lone (fat b a (.code c::k)) cs w) b k cs out y:=
 fun c _ hc _ _ _ _ _ _ _ _ _ h hro hs=>(code_did2 H c).1 hc h hro hs
end
end Zv
