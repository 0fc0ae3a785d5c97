/- Regions whose order is open: what is known in the midst of a run in any order. Conditions: none. -/
import Derived.Test.YtnpoohbeicakkaaGreatDoorZAF
set_option linter.unusedSimpArgs false
set_option linter.unusedVariables false
namespace Zv
open Go
theorem lG(dst:Option Nat)(t:Tm)(d:D)(n:Nat):tget (iO dst t d) n=if dst=some n then d else tget t n:=by
 cases dst with
 | none=>simp[iO]
 | some k=>
  show tget (tput t k d) n=_
  grind [nB]
def uD(e:Ev):Option St:=bif Nat.beq e.o.op.kd 2 then some e.x.s else none
theorem yO{e:Ev}(h:e.o.op.kd=2):uD e=some e.x.s:=by simp[uD,h]
theorem effS_no{e:Ev}(h:e.o.op.kd≠2):uD e=none:=by
 grind [Nat.beq,absurd,bH,uD]
section
variable {cx:Cx} {cl:CL} {c0:Nat}
variable {pre tr post:List Ev} {z y:AS} {l:List Ent} {hist:List St} {zR:Out}
def jV(c0:Nat)(pre:List Ev)(z z':AS):Prop:=
 (∀n,(∃e∈pre,e.o.dst=some n∧tget z'.t n=e.d)∨((∀e∈pre,e.o.dst≠some n)∧tget z'.t n=tget z.t n))∧z'.d=z.d∧z'.r=z.r ∧
 ((∀e∈pre,e.o.op.kd≠2)→z'.c=z.c∧(∀nm blk,sget z'.s nm=some blk→sget z.s nm=some blk∨∃e∈pre,e.nb=some blk∧nm=c0+e.i)∧∀nm,sget z.s nm≠none→sget z'.s nm≠none)
theorem jV.nil(z:AS):jV c0 [] z z:=
 ⟨fun n=>.inr ⟨fun e he=>(by cases he),rfl⟩,rfl,rfl,fun _=>⟨rfl,fun nm blk h=>.inl h,fun nm h=>h⟩⟩
theorem jV.cons{e:Ev}{z1 z':AS}(ht:z1.t=iO e.o.dst z.t e.d)(hd:z1.d=z.d)(hr:z1.r=z.r) 
  (hs:e.o.op.kd≠2→z1.c=z.c∧(∀nm blk,sget z1.s nm=some blk→sget z.s nm=some blk∨(e.nb=some blk∧nm=c0+e.i))∧∀nm,sget z.s nm≠none→sget z1.s nm≠none)
  (h:jV c0 pre z1 z'):jV c0 (e::pre) z z':=by
 obtain⟨h1,h2,h3,h4⟩:=h;refine⟨fun n=>?_,h2.trans hd,h3.trans hr,fun hk=>?_⟩
 all_goals grind [dA,lG,cE]
theorem canon_pre(h:mH cx cl c0 l hist z tr zR y):
  ∀{pre post:List Ev},tr=pre++post→(post≠[]∨zR = .normal) →
   ∃l2 z',l=pre.map Ev.ent++l2∧mH cx cl c0 l2 ((pre.filterMap uD).reverse++hist) z' post zR y∧jV c0 pre z z':=by
 induction h with
 | @nil hist x=>
  intro pre post he hp;have:pre=[]∧post=[]:=by simpa using he.symm
  obtain⟨rfl,rfl⟩:=this;exact⟨[],_,rfl,.nil,jV.nil _⟩
 | @look i k o r hist x d tr zR y hk hw hc ih=>
  intro pre post he hp;cases pre with
  | nil=>simp only[cK]at he;subst he;exact⟨_,_,rfl,.look hk hw hc,jV.nil _⟩
  | cons e pre=>
   simp only[cA,List.cons.injEq]at he;obtain⟨rfl,he⟩:=he;obtain⟨l2,z',h1,h2,h3⟩:=ih he hp;refine⟨l2,z',by rw[h1];rfl,?_,jV.cons (z1:=⟨iO o.dst x.t d,x.s,x.c,x.d,x.r⟩) rfl rfl rfl (fun _=>⟨rfl,fun nm blk hb=>.inl hb,fun nm hn=>hn⟩) h3⟩
   grind [effS_no]
 | @alloc i k o r hist x v b d tr zR y hk hw ha hs hdv hc ih=>
  intro pre post he hp;have Bn:o.op.kd≠2:=by rw[hk];decide
  cases pre with
  | nil=>simp only[cK]at he;subst he;exact⟨_,_,rfl,.alloc hk hw ha hs hdv hc,jV.nil _⟩
  | cons e pre=>
   simp only[cA,List.cons.injEq]at he;obtain⟨rfl,he⟩:=he;obtain⟨l2,z',h1,h2,h3⟩:=ih he hp;refine⟨l2,z',by rw[h1];rfl,?_,jV.cons (z1:=⟨iO o.dst x.t d,sadd x.s (c0+i) b,x.c,x.d,x.r⟩) rfl rfl rfl (fun _=>⟨rfl,fun nm blk hb=>?_,fun nm hn=>?_⟩) h3⟩
   all_goals grind [effS_no,aZ]
 | @act i k o r hist x z d tr zR y hk hw hc ih=>
  intro pre post he hp;have ht:z.t=iO o.dst x.t d∧z.d=x.d∧z.r=x.r:=by
   rcases hw with⟨_,_,rfl⟩|⟨_,_,h1,h2,h3⟩
   ·grind
   ·grind
  cases pre with
  | nil=>simp only[cK]at he;subst he;exact⟨_,_,rfl,.act hk hw hc,jV.nil _⟩
  | cons e pre=>
   simp only[cA,List.cons.injEq]at he;obtain⟨rfl,he⟩:=he;obtain⟨l2,z',h1,h2,h3⟩:=ih he hp;refine⟨l2,z',by rw[h1];rfl,?_,jV.cons ht.1 ht.2.1 ht.2.2 (fun hn=>absurd hk hn) h3⟩
   grind [yO]
 | @pan i k o r hist x z ch hk hw hz hr=>
  intro pre post he hp;cases pre with
  | nil=>simp only[cK]at he;subst he;exact⟨_,_,rfl,.pan hk hw hz hr,jV.nil _⟩
  | cons e pre=>
   simp_all
theorem canon_cover(h:mH cx cl c0 l hist z tr zR y):
  ∀e∈l,(∃v∈tr,v.ent=e)∨∃l1 f l2,l=l1++f::l2∧f.2.2.op.kd=2∧e∈l2∧e.2.1=0:=by
 induction h with
 | nil=>grind
 | look hk hw hc ih=>
  intro e he;rcases cH.1 he with rfl|he
  ·exact .inl ⟨_,cE,rfl⟩
  grind
 | alloc hk hw ha hs hdv hc ih=>
  intro e he;rcases cH.1 he with rfl|he
  ·exact .inl ⟨_,cE,rfl⟩
  grind
 | act hk hw hc ih=>
  intro e he;rcases cH.1 he with rfl|he
  ·exact .inl ⟨_,cE,rfl⟩
  grind
 | pan hk hw hz hr=>
  intro e he;rcases cH.1 he with rfl|he
  ·exact .inl ⟨_,cE,rfl⟩
  ·exact .inr ⟨[],_,_,rfl,hk,he,hr e he⟩
theorem jD(h:mH cx cl c0 l hist z tr zR y):∀v∈tr,v.ent∈l:=by
 induction h with
 | nil=>grind
 | look hk hw hc ih=>
  intro e he;rcases cH.1 he with rfl|he
  ·exact cE
  grind
 | alloc hk hw ha hs hdv hc ih=>
  intro e he;rcases cH.1 he with rfl|he
  ·exact cE
  grind
 | act hk hw hc ih=>
  intro e he;rcases cH.1 he with rfl|he
  ·exact cE
  grind
 | pan hk hw hz hr=>
  intro e he;rcases cH.1 he with rfl|he
  ·exact cE
  ·cases he
theorem lU(h:mH cx cl c0 l hist z tr zR y){e:Ev}(he:tr=pre++e::post):
  e.hist=(pre.filterMap uD).reverse++hist∧jV c0 pre z e.x∧∃l2,l=pre.map Ev.ent++(e.ent::l2)∧mH cx cl c0 (e.ent::l2) e.hist e.x (e::post) zR y:=by
 obtain⟨l2,z',h1,h2,h3⟩:=canon_pre h he (.inl (by simp))
 have hc:=h2;cases h2<;>exact⟨rfl,h3,_,h1,hc⟩
theorem canon_alloc{e:Ev}(h:mH cx cl c0 l hist z (e::post) zR y){b:Blk}(hb:e.nb=some b):
  (∀s∈e.x.s::e.hist.take e.k,sget s (c0+e.i)=none)∧e.o.op.kd=1:=by
 cases h with
 | look=>cases hb
 | alloc hk hw ha hs hdv hc=>grind
 | act=>cases hb
 | pan=>cases hb
theorem first_act:∀(pre:List Ev),(∀e∈pre,e.o.op.kd≠2)∨∃p1 e p2,pre=p1++e::p2∧(∀f∈p1,f.o.op.kd≠2)∧e.o.op.kd=2
 | []=>.inl fun e he=>by cases he
 | e::r=>by
  by_cases hk:e.o.op.kd=2
  ·exact .inr ⟨[],e,r,rfl,fun f hf=>(by cases hf),hk⟩
  ·rcases first_act r with h|⟨p1,f,p2,h1,h2,h3⟩
   ·exact .inl fun f hf=>by
     rcases cH.1 hf with rfl|hf
     ·exact hk
     ·exact h f hf
   ·refine .inr ⟨e::p1,f,p2,by rw[h1];rfl,fun g hg=>?_,h3⟩
    rcases cH.1 hg with rfl|hg
    ·exact hk
    ·exact h2 g hg
theorem filterMap_none{p1:List Ev}(h:∀f∈p1,f.o.op.kd≠2):p1.filterMap uD=[]:=by
 simp_all [List.filterMap_cons,effS_no,cE,dA]
theorem phase(h:mH cx cl c0 l hist z tr zR y){e:Ev}(he:tr=pre++e::post) 
  (hk:(pre.filterMap uD).length≤e.k):∃s1,s1∈e.x.s::e.hist.take e.k ∧
   (∀nm blk,sget s1 nm=some blk→sget z.s nm=some blk∨∃f∈tr,f.nb=some blk∧nm=c0+f.i)∧(∀nm,sget z.s nm≠none→sget s1 nm≠none) ∧
   ∀p1 f p2,pre=p1++f::p2→(∀g∈p1,g.o.op.kd≠2)→f.o.op.kd=2→s1=f.x.s:=by
 obtain⟨h1,h2,l2,h3,h4⟩:=lU h he;rcases first_act pre with hn|⟨p1,f,p2,hp,On,hf⟩
 ·obtain⟨g1,g2,g3⟩:=h2.2.2.2 hn
  grind [cE,absurd,List.mem_append_left]
 ·have Om:pre.filterMap uD=f.x.s::p2.filterMap uD:=by
   rw[hp,List.filterMap_append,filterMap_none On,cK,List.filterMap_cons,yO hf]
  have Gl:f.x.s∈e.hist.take e.k:=by
   rw[h1,Om,List.reverse_cons,List.append_assoc];rw[Om,aO]at hk;rw[List.mem_take_iff_getElem];refine⟨(p2.filterMap uD).length,by simp;omega,?_⟩
   rw[List.getElem_append_right (by simp)]
   simp
  have Ip:tr=p1++f::(p2++e::post):=by rw[he,hp];simp
  obtain⟨k1,k2,l3,k3,k4⟩:=lU h Ip;obtain⟨g1,g2,g3⟩:=k2.2.2.2 On;refine⟨f.x.s,dA _ Gl,fun nm blk hb=>?_,g3,fun q1 f' q2 hq hq1 Ha=>?_⟩
  ·grind
  · -- the first one is one
   have key:∀(a1 a2 b1 b2:List Ev) (f f':Ev),a1++f::a2=b1++f'::b2→(∀g∈a1,g.o.op.kd≠2)→(∀g∈b1,g.o.op.kd≠2)→f.o.op.kd=2→f'.o.op.kd=2→f=f':=by
    intro a1
    induction a1 with
    | nil=>
     intro a2 b1 b2 f f' e ha hb hf Ha;cases b1 with
     | nil=>grind
     | cons g b1=>grind
    | cons g a1 ih=>
     intro a2 b1 b2 f f' e ha hb hf Ha;cases b1 with
     | nil=>grind
     | cons g' b1=>
      simp only[cA,List.cons.injEq]at e
      grind
   rw[key p1 p2 q1 q2 f f' (by grind) On hq1 hf Ha]
end
section
variable {n:Nat} {Am:List Nat} {az:List cR}
theorem wQ.total:∀{l:List Ent} {pre:List (Nat×cR)},wQ n Am az l pre→∀j,j<n→j∈pre.map (·.1)∨∃e∈l,e.1=j
 | [],pre,h,j,hj=>.inl (h j hj)
 | (i,k,o)::r,pre,h,j,hj=>by
  obtain⟨_,_,_,_,_,_,_,_,h9⟩:=h;rcases wQ.total h9 j hj with e|⟨e,he,e1⟩
  all_goals grind [cE,dA]
theorem wQ.mem{l:List Ent}{pre:List (Nat×cR)}(h:wQ n Am az l pre){e:Ent}(he:e∈l){p:Nat×cR}(hp:p∈pre):
  e.1≠p.1∧(∀d,e.2.2.dst=some d→p.2.dst≠some d)∧((Am.getD e.1 0).testBit p.1=true∨((∀d,e.2.2.dst=some d→d∉p.2.tmps)∧∀d,p.2.dst=some d→d∉e.2.2.tmps)):=by
 obtain⟨l1,l2,rfl⟩:=List.append_of_mem he;obtain⟨i,k,o⟩:=e;obtain⟨_,_,h3,_,_,_,_,h8,_⟩:=h.drop
 grind
theorem efs_split(pre:List Ev)(done:List (Nat×cR)):yN (oG (pre.map Ev.ent)++done)=((pre.filter fun e=>Nat.beq e.o.op.kd 2).map (·.i)).reverse++yN done:=by
 induction pre generalizing done with
 | nil=>simp[yN,oG]
 | cons e r ih=>
  have h1:oG ((e::r).map Ev.ent)++done=oG (r.map Ev.ent)++((e.i,e.o)::done):=by simp[oG,Ev.ent]
  rw[h1,ih,List.filter_cons];cases hk:Nat.beq e.o.op.kd 2<;>simp[yN,hk]
theorem effS_len(pre:List Ev):(pre.filterMap uD).length=(pre.filter fun e=>Nat.beq e.o.op.kd 2).length:=by
 induction pre with
 | nil=>rfl
 | cons e r ih=>
  grind [Nat.beq,uD]
theorem open_le{listed:Array Bool}{pre:List Ev}{done:List (Nat×cR)}{k:Nat}(Tq:∀f∈pre,f.o.op.kd=2→listed.getD f.i false=false)
  (h6:∀q∈(yN (oG (pre.map Ev.ent)++done)).drop k,listed.getD q false=true):(pre.filterMap uD).length≤k:=by
 rcases Nat.lt_or_ge k (pre.filterMap uD).length with zQ|hge
 ·exfalso;rw[efs_split]at h6;rw[effS_len]at zQ
  let A:=((pre.filter fun e=>Nat.beq e.o.op.kd 2).map (·.i)).reverse
  have hA:k<A.length:=by simpa[A]using zQ
  have hm:A[k]∈(A++yN done).drop k:=by
   rw[List.drop_append_of_le_length (by omega)]
   refine List.mem_append_left _ ?_;rw[List.drop_eq_getElem_cons hA];exact cE
  grind [bQ,bH,Nat.beq]
 ·exact hge
end
structure Inv (E:Env) (cx:Cx) (cl:CL) (M0:Nat→Prop) (w0:World) (N:Nat) (n:Nat) (Am:List Nat) (az:List cR) (x0:AS) (μ0:Mu) (wS:World) (zR:Out) (y:AS)
  (listed:Array Bool) (a:Act) (w:World) (done:List (Nat×cR)) (l:List Ent) (hist:List St) (z:AS) (tr:List Ev) (μ:Mu) (xh:AS):Prop where
 ord:wQ n Am az l done
 can:mH cx cl x0.c l hist z tr zR y
 dn:∀p∈done,listed.getD p.1 false=true
 ne:∀e∈l,e.2.2.op.kd=2→listed.getD e.1 false=false
 rel:Rel E M0 w0 N μ a w xh
 c:xh.c=z.c
 d:xh.d=z.d
 r:xh.r=z.r
 r0:z.r=x0.r
 ge:x0.c+n≤z.c
 tmp1:∀e∈tr,listed.getD e.i false=true→∀m,e.o.dst=some m→tget xh.t m=e.d
 tmp2:∀m,(∀e∈tr,listed.getD e.i false=true→e.o.dst≠some m)→tget xh.t m=tget z.t m
 kil:∀e∈l,e.2.1≠0→∀m,e.2.2.dst=some m→tget z.t m = .un
 st1:∀nm blk,sget z.s nm=some blk→μ nm≠none→sget xh.s nm=some blk
 st2:∀e∈tr,listed.getD e.i false=true→∀blk,e.nb=some blk→sget xh.s (x0.c+e.i)=some blk∧μ (x0.c+e.i)≠none
 unm:∀e∈l,listed.getD e.1 false=false→μ (x0.c+e.1)=none
 fr:Fr x0.c x0.s μ0 wS z.c xh.s μ w
theorem tW(l:Array Bool)(i j:Nat)(hi:i<l.size):(l.setIfInBounds i true).getD j false=if j=i then true else l.getD j false:=by
 simp only[gV]
 grind
theorem Fr.weaken{c c1 c2:Nat}{s s':St}{μ μ':Mu}{w w':World}(h:Fr c1 s μ w c2 s' μ' w')(hc:c≤c1):Fr c s μ w c2 s' μ' w':=
 ⟨h.size,h.same,h.live,h.mu,fZ hc h.cle,fun nm hn e=>h.kept nm (bY hn hc) e,h.new⟩
theorem Fr.trans'{c c1 c2:Nat}{s s1 s2:St}{μ μ1 μ2:Mu}{w w1 w2:World}(h:Fr c s μ w c1 s1 μ1 w1)(h':Fr c s1 μ1 w1 c2 s2 μ2 w2):Fr c s μ w c2 s2 μ2 w2:=
 ⟨fZ h.size h'.size,fun b hb hl=>by
  rw[h'.same b (bY hb h.size) (fun e=>hl (h.live b hb e)),h.same b hb hl],
  fun b hb e=>h.live b hb (h'.live b (bY hb h.size) e),fun n l e=>h'.mu n l (h.mu n l e),h'.cle,fun nm hn e=>h'.kept nm hn (h.kept nm hn e),fun b hb hn=>h.new b hb (h'.new b (bY hb h.size) hn)⟩
theorem wanted_congr{o:cR}{x x':AS}(h:∀n∈o.tmps,tget x'.t n=tget x.t n):wanted o x'=wanted o x:=by
 grind [wanted,cR.tmps]
section
variable {E:Env} {cx:Cx} {cl:CL} {M0:Nat→Prop} {w0:World} {N:Nat} {M:Nat→Prop} {n:Nat} {Am:List Nat} {az:List cR} {x0:AS} {μ0:Mu} {wS:World} {zR:Out} {y:AS}
 {listed:Array Bool} {a:Act} {w:World} {done:List (Nat×cR)} {l:List Ent} {hist:List St} {z:AS} {tr:List Ev} {μ:Mu} {xh:AS}
theorem Inv.find(h:Inv E cx cl M0 w0 N n Am az x0 μ0 wS zR y listed a w done l hist z tr μ xh){i:Nat}(Cy:i<n)(Da:listed.getD i false=false)
  (Cg:∀q,(Am.getD i 0).testBit q=true→listed.getD q false=true):∃pre e post,tr=pre++e::post∧e.i=i:=by
 rcases h.ord.total i Cy with hd|⟨e,he,rfl⟩
 ·exfalso;obtain⟨p,hp,rfl⟩:=cY.1 hd;rw[h.dn p hp]at Da;cases Da
 ·rcases canon_cover h.can e he with⟨v,hv,rfl⟩|⟨l1,f,l2,hl,hf,Gh,hk⟩
  ·obtain⟨pre,post,rfl⟩:=List.append_of_mem hv;exact⟨pre,v,post,rfl,rfl⟩
  ·exfalso;have Bj:f∈l:=by rw[hl];simp
   have Tq:=h.ne f Bj hf;obtain⟨m1,m2,rfl⟩:=List.append_of_mem Gh;have Dx:l=(l1++f::m1)++e::m2:=by rw[hl];simp
   have ho:=h.ord;rw[Dx]at ho;obtain⟨i,k,o⟩:=e;obtain⟨_,_,_,_,h5,h6,_,_,_⟩:=ho.drop;simp only at hk;have hfp:(f.1,f.2.2)∈oG (l1++f::m1)++done:=by simp[oG]
   have hb:(Am.getD i 0).testBit f.1=true:=by
    by_cases h2:o.op.kd=2
    ·grind
    ·refine h6 h2 _ ?_;rw[hk,gQ];exact cY.2 ⟨_,List.mem_filter.2 ⟨hfp,by simp[hf]⟩,rfl⟩
   grind
theorem Inv.sees(h:Inv E cx cl M0 w0 N n Am az x0 μ0 wS zR y listed a w done l hist z tr μ xh){pre:List Ev}{e:Ev}{post:List Ev}(he:tr=pre++e::post)
  (Da:listed.getD e.i false=false) (Cg:∀q,(Am.getD e.i 0).testBit q=true→listed.getD q false=true)
  (Cp:∀j,listed.getD j false=true→∀q,(Am.getD j 0).testBit q=true→listed.getD q false=true):∀m∈e.o.tmps,tget xh.t m=tget e.x.t m:=by
 intro m hm;obtain⟨h1,h2,l2,h3,h4⟩:=lU h.can he;have ho:=h.ord;rw[h3]at ho;have Gk:=ho.drop;obtain⟨g1,g2,g3,g4,g5,g6,g7,g8,g9⟩:=Gk;have Om:∀f∈pre,(f.i,f.o)∈oG (pre.map Ev.ent)++done:=fun f hf=>by
  refine List.mem_append_left _ ?_;simp only[oG,List.mem_reverse,List.map_map,cY];exact⟨f,hf,rfl⟩
 rcases h2.1 m with⟨f,hf,e1,e2⟩|⟨e1,e2⟩
 · -- written by a step before it
  have hb:(Am.getD e.i 0).testBit f.i=true:=by
   rcases(g8 _ (Om f hf)).2 with hb|⟨_,hb⟩
   ·exact hb
   ·grind
  rw[h.tmp1 f (by grind) (Cg _ hb) m e1,e2]
 ·rw[e2];refine h.tmp2 m fun f hf hl hd=>?_
  rw[he]at hf;rcases List.mem_append.1 hf with hf|hf
  ·grind
  ·rcases cH.1 hf with rfl|hf
   ·grind
   ·have Bj:f.ent∈l2:=by
     have:=jD h4;have h5:=this f (dA _ hf);rcases cH.1 h5 with h6|h6
     ·exfalso;have:f.i=e.i:=congrArg (·.1) h6
      grind
     ·exact h6
    obtain⟨k1,k2,k3⟩:=g9.mem Bj (p:=(e.i,e.o)) cE;rcases k3 with hb|⟨hb,_⟩
    ·have:=Cp _ hl _ hb;rw[Da]at this;cases this
    ·exact hb m hd hm
theorem Inv.small(h:Inv E cx cl M0 w0 N n Am az x0 μ0 wS zR y listed a w done l hist z tr μ xh){s1:St}
  (h1:∀nm blk,sget s1 nm=some blk→sget z.s nm=some blk∨∃f∈tr,f.nb=some blk∧nm=x0.c+f.i):∀nm blk,sget s1 nm=some blk→μ nm≠none→sget xh.s nm=some blk:=by
 intro nm blk hb hn;rcases h1 nm blk hb with e|⟨f,hf,e1,rfl⟩
 ·exact h.st1 nm blk e hn
 ·cases hl:listed.getD f.i false with
  | true=>exact(h.st2 f hf hl blk e1).1
  | false=>exact absurd (h.unm f.ent (jD h.can f hf) hl) hn
end
theorem store_over(s:St):∀(L:List (Nat×Blk)),∃s',∀nm,(nm∈L.map (·.1)→∃blk,(nm,blk)∈L∧sget s' nm=some blk)∧(nm∉L.map (·.1)→sget s' nm=sget s nm)
 | []=>⟨s,fun nm=>⟨fun h=>(by simp at h),fun _=>rfl⟩⟩
 | (m,b)::L=>by
  obtain⟨s',h⟩:=store_over s L;refine⟨sadd s' m b,fun nm=>⟨fun hm=>?_,fun hm=>?_⟩⟩
  all_goals grind [cE,aZ,absurd,dA]
section
variable {n:Nat} {Am:List Nat} {az:List cR}
theorem wQ.get:∀{l:List Ent} {pre:List (Nat×cR)},wQ n Am az l pre→∀e∈l,az[e.1]?=some e.2.2∧e.1<n
 | [],_,_,e,he=>by cases he
 | (i,k,o)::r,pre,h,e,he=>by
  obtain⟨h1,h2,_,_,_,_,_,_,h9⟩:=h;rcases cH.1 he with rfl|he
  ·grind
  ·exact wQ.get h9 e he
end
section
variable {E:Env} {cx:Cx} {cl:CL} {M0:Nat→Prop} {w0:World} {N:Nat} {M:Nat→Prop} {n:Nat} {Am:List Nat} {az:List cR} {x0:AS} {μ0:Mu} {wS:World} {zR:Out} {y:AS}
variable {pre post:List Ev}
 {listed:Array Bool} {a:Act} {w:World} {done:List (Nat×cR)} {l:List Ent} {hist:List St} {z:AS} {tr:List Ev} {μ:Mu} {xh:AS}
theorem mem_preOf{done:List (Nat×cR)}{f:Ev}(hf:f∈pre):(f.i,f.o)∈oG (pre.map Ev.ent)++done:=by
 refine List.mem_append_left _ ?_;simp only[oG,List.mem_reverse,List.map_map,cY];exact⟨f,hf,rfl⟩
theorem Inv.apart(h:Inv E cx cl M0 w0 N n Am az x0 μ0 wS zR y listed a w done l hist z tr μ xh){e:Ev}(he:tr=pre++e::post):
  (∀f∈pre,f.i≠e.i∧∀d,f.o.dst=some d→e.o.dst≠some d)∧∀f∈post,f.i≠e.i∧∀d,f.o.dst=some d→e.o.dst≠some d:=by
 obtain⟨h1,h2,l2,h3,h4⟩:=lU h.can he;have ho:=h.ord;rw[h3]at ho;have Gk:=ho.drop;obtain⟨ei,ek,eo,ehist,ex,ed,enb⟩:=e;refine⟨fun f hf=>?_,fun f hf=>?_⟩
 ·obtain⟨k1,k2,_⟩:=Gk.mem (e:=(ei,ek,eo)) cE (mem_preOf hf)
  grind
 ·have Bj:f.ent∈l2:=by
   cases h4 with
   | look _ _ hc=>grind [jD]
   | alloc _ _ _ _ _ hc=>grind [jD]
   | act _ _ hc=>grind [jD]
   | pan=>cases hf
  obtain⟨_,_,_,_,_,_,_,_,g9⟩:=Gk;obtain⟨k1,k2,_⟩:=g9.mem Bj (p:=(ei,eo)) cE;exact⟨k1,k2⟩
theorem Inv.unique(h:Inv E cx cl M0 w0 N n Am az x0 μ0 wS zR y listed a w done l hist z tr μ xh){e f:Ev}(he:e∈tr)(hf:f∈tr)(hi:f.i=e.i):f=e:=by
 obtain⟨pre,post,hp⟩:=List.append_of_mem he;obtain⟨k1,k2⟩:=h.apart hp
 grind
theorem Inv.room(h:Inv E cx cl M0 w0 N n Am az x0 μ0 wS zR y listed a w done l hist z tr μ xh){e:Ev}(he:tr=pre++e::post)(hk:e.o.op.kd≠2) 
  (Cg:∀q,(Am.getD e.i 0).testBit q=true→listed.getD q false=true):(pre.filterMap uD).length≤e.k:=by
 obtain⟨h1,h2,l2,h3,h4⟩:=lU h.can he;have ho:=h.ord;rw[h3]at ho;obtain⟨_,_,_,_,_,g6,_,_,_⟩:=ho.drop;refine open_le (listed:=listed) (done:=done) (fun f hf hk=>h.ne f.ent (jD h.can f (by grind)) hk) fun q hq=>Cg q (g6 hk q hq)
theorem Inv.did(h:Inv E cx cl M0 w0 N n Am az x0 μ0 wS zR y listed a w done l hist z tr μ xh){e:Ev}(he:tr=pre++e::post)(hk:e.o.op.kd≠2)(Ae:e.i<listed.size) 
  {a':Act} {w':World} {μ':Mu} {Fp:AS} (rel:Rel E M0 w0 N μ' a' w' Fp) (hc:Fp.c=xh.c) (hd:Fp.d=xh.d) (hr:Fp.r=xh.r) (ht:Fp.t=iO e.o.dst xh.t e.d)
  (hs:(e.nb=none∧μ'=μ∧Fp.s=xh.s)∨∃b,e.nb=some b∧(∀nm,nm≠x0.c+e.i→μ' nm=μ nm∧sget Fp.s nm=sget xh.s nm)∧sget Fp.s (x0.c+e.i)=some b∧μ' (x0.c+e.i)≠none∧sget z.s (x0.c+e.i)=none)
  (fr:Fr x0.c xh.s μ w z.c Fp.s μ' w'):Inv E cx cl M0 w0 N n Am az x0 μ0 wS zR y (listed.setIfInBounds e.i true) a' w' done l hist z tr μ' Fp:=by
 obtain⟨p1,p2⟩:=h.apart he;have Yl:e∈tr:=by rw[he];simp
 have Qa:∀f∈tr,f.i≠e.i→∀d,f.o.dst=some d→e.o.dst≠some d:=fun f hf hn=>by
  grind
 have hL:∀j,(listed.setIfInBounds e.i true).getD j false=if j=e.i then true else listed.getD j false:=fun j=>tW _ _ _ Ae
 have old:∀nm,nm≠x0.c+e.i→μ' nm=μ nm∧sget Fp.s nm=sget xh.s nm:=fun nm hn=>by
  grind
 exact {
  ord:=h.ord
  can:=h.can
  dn:=fun p hp=>by rw[hL];split;rfl;exact h.dn p hp
  ne:=fun f hf Bn=>by
   rw[hL,aG]
   ·exact h.ne f hf Bn
   ·intro hi;have e1:=(h.ord.get f hf).1;have e2:=(h.ord.get e.ent (jD h.can e Yl)).1;rw[hi]at e1;have e3:f.2.2=e.o:=Option.some.inj (e1.symm.trans e2)
    grind
  rel:=rel
  c:=hc.trans h.c
  d:=hd.trans h.d
  r:=hr.trans h.r
  r0:=h.r0
  ge:=h.ge
  tmp1:=fun f hf hl m hm=>by
   rw[ht,lG];rw[hL]at hl;by_cases hi:f.i=e.i
   ·grind
   ·rw[aG hi]at hl;rw[aG (Qa f hf hi m hm)];exact h.tmp1 f hf hl m hm
  tmp2:=fun m hm=>by
   have h1:e.o.dst≠some m:=hm e Yl (by grind)
   rw[ht,lG,aG h1];refine h.tmp2 m fun f hf hl=>hm f hf (by grind)
  kil:=h.kil
  st1:=fun nm blk hb hn=>by
   by_cases e1:nm=x0.c+e.i
   ·rcases hs with⟨_,h1,h2⟩|⟨b,_,_,_,_,h1⟩
    ·rw[h2];rw[h1]at hn;exact h.st1 nm blk hb hn
    grind
   ·rw[(old nm e1).1]at hn;rw[(old nm e1).2];exact h.st1 nm blk hb hn
  st2:=fun f hf hl blk hb=>by
   rw[hL]at hl;by_cases hi:f.i=e.i
   ·grind
   ·rw[aG hi]at hl;have An:x0.c+f.i≠x0.c+e.i:=by omega
    rw[(old _ An).1,(old _ An).2];exact h.st2 f hf hl blk hb
  unm:=fun f hf hl=>by
   rw[hL]at hl;by_cases hi:f.1=e.i
   ·grind
   ·rw[aG hi]at hl;rw[(old (x0.c+f.1) (by omega)).1]
    exact h.unm f hf hl
  fr:=h.fr.trans' fr }
variable {ops:Array Oper} {b:Frame} {k:List Item} {cs:List Frame}
theorem Inv.look(h:Inv E cx cl M0 w0 N n Am az x0 μ0 wS zR y listed a w done l hist z tr μ xh)(hG:cx.G=E.G){pre:List Ev}{e:Ev}{post:List Ev}(he:tr=pre++e::post)(hk:e.o.op.kd≠2)
  (Ae:e.i<listed.size) (Da:listed.getD e.i false=false) (Cg:∀q,(Am.getD e.i 0).testBit q=true→listed.getD q false=true)
  (Cp:∀j,listed.getD j false=true→∀q,(Am.getD j 0).testBit q=true→listed.getD q false=true)
  {o:Oper} (ho:ops[e.i]?=some o) (Qr:yV E.P N ops o=some e.o) (rest:List Nat) :
  ∃a' w' μ' Fp,Inv E cx cl M0 w0 N n Am az x0 μ0 wS zR y (listed.setIfInBounds e.i true) a' w' done l hist z tr μ' Fp ∧
   Steps E.P (lone (fat b a (.inRegion ops (e.i::rest)::k)) cs w) (lone (fat b a' (.inRegion ops rest::k)) cs w'):=by
 obtain⟨h1,h2,l2,h3,h4⟩:=lU h.can he;have Rs:=h.sees he Da Cg Cp;obtain⟨Ex,hdst,Gx,hd⟩:=nJ Qr;have Ca:=h.room he hk Cg;obtain⟨s1,Ax,Hn,Ee,_⟩:=phase h.can he Ca;have Ly:=h.small Hn;have hge:=h.ge;have Jb:=h.c;have hxc:x0.c≤z.c:=by omega
 have Jy:Fr x0.c xh.s μ w z.c xh.s μ w:=⟨aK _,fun _ _ _=>rfl,fun _ _ h=>h,gJ.refl μ,hxc,fun _ _ h=>h,nonew⟩
 have hwx:wanted e.o xh=wanted e.o e.x:=wanted_congr Rs;have Db:∀v,(fat b a (.inRegion ops (e.i::rest)::k)).finish v=fat b (a.put o.dst v) (.inRegion ops rest::k):=fun v=>by
  grind [nH]
 have Qb:e.o.op.kd≠3→∀c,o.op≠.defer c:=fun h3 c hc=>by
  rcases cOp_kind Ex with⟨_,hn⟩|⟨c',f,l,hoc,_⟩|⟨c',y',g,l,hoc,_⟩|⟨c',r,m,g,l,hoc,_⟩|⟨y',g,hoc,_⟩|⟨c',y',g,l,hoc,_,_,_,Dh⟩|⟨c',hoc,_⟩
  ·exact hn c hc
  ·grind
  ·grind
  ·grind
  ·grind
  ·rw[Dh]at h3;exact h3 rfl
  grind
 have skip:wanted e.o e.x=some false→e.d = .tup []→e.nb=none→∃a' w' μ' Fp,Inv E cx cl M0 w0 N n Am az x0 μ0 wS zR y (listed.setIfInBounds e.i true) a' w' done l hist z tr μ' Fp ∧
   Steps E.P (lone (fat b a (.inRegion ops (e.i::rest)::k)) cs w) (lone (fat b a' (.inRegion ops rest::k)) cs w'):=fun hw Yn Qk=>by
  have Lu:=kC h.rel Gx (hwx.trans hw);have zZ:=lT (P:=E.P) (b:=b) (a:=a) (k:=k) (cs:=cs) (w:=w) (ops:=ops) (i:=e.i) (rest:=rest) (by simp[ho,Lu])
  simp only[ho,bE]at zZ;have Bp:=h.rel.put (dst:=o.dst) (d:=.tup []) (v:=undef) hd (by simp only[aY];exact⟨#[],rfl,rfl⟩)
  have Ef:Rel E M0 w0 N μ (a.put o.dst undef) w ⟨iO o.dst xh.t (.tup []),xh.s,xh.c,xh.d,xh.r⟩:=by revert Bp;cases o.dst<;>exact id
  refine⟨_,_,μ,⟨iO o.dst xh.t (.tup []),xh.s,xh.c,xh.d,xh.r⟩,h.did he hk Ae Ef rfl rfl rfl (by rw[hdst,Yn]) (.inl ⟨Qk,rfl,rfl⟩) Jy,.one zZ⟩
 obtain⟨ei,ek,eo,ehist,ex,ed,enb⟩:=e;simp only at *;cases h4 with
 | look Br hw hc=>
  rcases hw with⟨hw,Yn⟩|⟨hw,Nx,hs,Aa⟩
  ·grind
  · -- it looks
   have Ro:step cx.G eo.op ⟨ex.t,s1,ex.c,ex.d,ex.r⟩=some (ed,⟨ex.t,s1,ex.c,ex.d,ex.r⟩):=by
    rcases cH.1 Ax with rfl|hm
    ·exact hs
    ·grind
   have Bh:=step_t Nx (t':=xh.t) (c':=xh.c) (dl':=xh.d) (r':=xh.r) (fun m hm=>Rs m (List.mem_append_left _ hm)) Ro
   rw[hG]at Bh;have Lu:=kC h.rel Gx (hwx.trans hw);have Rp:Rel E M0 w0 N μ a w ⟨xh.t,s1,xh.c,xh.d,xh.r⟩:=h.rel.restrict (fun _=>.inl rfl) Ly (aK _) rfl
   obtain⟨v,w',μ',hr,hv,hR,hf⟩:=op_sound Rp Ex Bh;have hμ:μ'=μ:=by
    funext nm
    rcases Nat.lt_or_ge nm xh.c with zQ|hge
    ·cases hm:μ nm with
     | none=>exact hf.kept nm zQ hm
     | some lc=>exact hf.mu nm lc hm
    ·rw[hR.free (nm:=nm) hge,h.rel.free hge]
   subst hμ;obtain⟨Et,Mo⟩:=h.rel.lift Ly hR hf (s2:=xh.s) (t2:=xh.t) (fun nm blk hb hn=>by
    cases hg:sget s1 nm with
    | none=>grind
    | some Bt=>
     grind) hR.tm
   have Bp:=Et.put (dst:=o.dst) hd hv;have Ef:Rel E M0 w0 N μ' (a.put o.dst v) w' ⟨iO o.dst xh.t ed,xh.s,xh.c,xh.d,xh.r⟩:=by revert Bp;cases o.dst<;>exact id
   have hg:=mE (P:=E.P) (b:=b) (k:=k) (cs:=cs) (w:=w) (rest:=rest) ho Lu (.inr (Qb (by grind)))
   have hfb':Fr x0.c xh.s μ' w z.c xh.s μ' w':=by
    have:=Mo.weaken (c:=x0.c) (by omega)
    rw[←Jb];exact this
   refine⟨_,_,μ',⟨iO o.dst xh.t ed,xh.s,xh.c,xh.d,xh.r⟩,h.did he hk Ae Ef rfl rfl rfl (by rw[hdst]) (.inl ⟨rfl,rfl,rfl⟩) hfb',.one (dK ?_)⟩
   rw[hg,←Db];rcases hr with hr|⟨hr,rfl⟩
   ·exact pQ hr
   ·exact rU hr
 | @alloc _ _ _ _ _ _ v blk _ _ _ _ hk1 hw ha Ol hdv hc=>
  have hdv':ed=v (x0.c+ei):=hdv;clear hdv;subst hdv';have Fl:dC E.G eo.op xh.t=some (v,blk):=by
   rw[←hG,←ha];exact alloc_t fun m hm=>Rs m (List.mem_append_left _ hm)
  have Lu:=kC h.rel Gx (hwx.trans hw);obtain⟨u,w',Re,cap,zV,hw',Ea,Aa⟩:=alloc_res h.rel Ex Fl;have Yl:(⟨ei,ek,eo,ehist,ex,v (x0.c+ei),some blk⟩:Ev)∈tr:=by rw[he];simp
  have Gh:=jD h.can _ Yl;have Tq:μ (x0.c+ei)=none:=h.unm _ Gh Da;have zQ:x0.c+ei<xh.c:=by
   have:ei<n:=(h.ord.get _ Gh).2;omega
  obtain⟨μ',hR,Ac,hx,Rf,hμo,Kl,Ar,Bd⟩:=h.rel.reserve Tq zQ hw' Ea (fun M' Dq μ' g1 g2 g3 g4 g5=>(Aa M' Dq μ' _ g1 g2 g3).2 g4 g5)
  have hv:=(Aa (Mm M0 μ') w' μ' _ hx Ac Rf).1;have Bp:=hR.put (dst:=o.dst) hd hv;have Ef:Rel E M0 w0 N μ' (a.put o.dst u) w' ⟨iO o.dst xh.t (v (x0.c+ei)),sadd xh.s (x0.c+ei) blk,xh.c,xh.d,xh.r⟩:=by revert Bp;cases o.dst<;>exact id
  have hg:=mE (P:=E.P) (b:=b) (k:=k) (cs:=cs) (w:=w) (rest:=rest) ho Lu (.inr (Qb (by grind)))
  have hz:sget z.s (x0.c+ei)=none:=by
   cases Zw:sget z.s (x0.c+ei) with
   | none=>rfl
   | some q=>grind
  have zX:Fr x0.c xh.s μ w z.c (sadd xh.s (x0.c+ei) blk) μ' w':=
   ⟨Kl,fun b hb _=>Ar b hb,Bd,Ac,hxc,fun nm hn e=>by grind,fun b hb ⟨q,l,hl,Be⟩=>by
    by_cases hq:q=x0.c+ei
    ·grind
    ·exact⟨q,l,by grind,Be⟩⟩
  refine⟨_,_,μ',⟨iO o.dst xh.t (v (x0.c+ei)),sadd xh.s (x0.c+ei) blk,xh.c,xh.d,xh.r⟩,h.did he hk Ae Ef rfl rfl rfl (by rw[hdst])
   (.inr ⟨blk,rfl,fun nm hn=>⟨hμo nm hn,by grind [aZ]⟩,by grind [aZ],by grind,hz⟩) zX,.one (dK ?_)⟩
  grind [pQ]
 | act Br=>grind
 | pan Br=>grind
end
theorem hf_mu_some{c c':Nat}{s s':St}{μ μ':Mu}{w w':World}(h:Fr c s μ w c' s' μ' w'){n:Nat}{l:Loc}(e:μ n=some l):μ' n=some l:=h.mu n l e
section
variable {E:Env} {cx:Cx} {cl:CL} {M0:Nat→Prop} {w0:World} {N:Nat} {M:Nat→Prop} {n:Nat} {Am:List Nat} {az:List cR} {x0:AS} {μ0:Mu} {wS:World} {zR:Out} {y:AS}
variable {pre post:List Ev}
 {listed:Array Bool} {a:Act} {w:World} {done:List (Nat×cR)} {l:List Ent} {hist:List St} {z:AS} {tr:List Ev} {μ:Mu} {xh:AS}
 {ops:Array Oper} {b:Frame} {k:List Item} {cs:List Frame}
theorem Inv.before(h:Inv E cx cl M0 w0 N n Am az x0 μ0 wS zR y listed a w done l hist z tr μ xh){e:Ev}(he:tr=pre++e::post)(hk:e.o.op.kd=2) 
  (Cg:∀q,(Am.getD e.i 0).testBit q=true→listed.getD q false=true) :
  (∀f∈pre,listed.getD f.i false=true)∧∀f∈pre,f.o.op.kd≠2:=by
 obtain⟨h1,h2,l2,h3,h4⟩:=lU h.can he;have ho:=h.ord;rw[h3]at ho;obtain⟨_,_,_,_,g5,_,_,_,_⟩:=ho.drop;have hl:∀f∈pre,listed.getD f.i false=true:=fun f hf=>Cg _ (g5 hk f.i (cY.2 ⟨_,mem_preOf hf,rfl⟩))
 refine⟨hl,fun f hf Bn=>?_⟩
 have:=h.ne f.ent (jD h.can f (by grind)) Bn
 grind [Ev.ent]
theorem Inv.late(h:Inv E cx cl M0 w0 N n Am az x0 μ0 wS zR y listed a w done l hist z tr μ xh){e:Ev}(he:tr=pre++e::post)(hk:e.o.op.kd=2)(Da:listed.getD e.i false=false) 
  (hn:∀f∈pre,f.o.op.kd≠2) (Cp:∀j,listed.getD j false=true→∀q,(Am.getD j 0).testBit q=true→listed.getD q false=true) :
  ∀f∈tr,listed.getD f.i false=true→f∉pre→f.k≠0:=by
 intro f hf hl hp Nx;have hft:=hf;rw[he]at hf;rcases List.mem_append.1 hf with hf|hf
 ·exact hp hf
 ·rcases cH.1 hf with rfl|hf
  ·grind
  ·obtain⟨q1,q2,hq⟩:=List.append_of_mem hf;have Ip:tr=(pre++e::q1)++f::q2:=by rw[he,hq];simp
   by_cases hkf:f.o.op.kd=2
   ·have:=h.ne f.ent (jD h.can f hft) hkf
    grind [Ev.ent]
   ·have:=h.room Ip hkf (Cp _ hl)
    grind [dZ,yO]
theorem Inv.meet(h:Inv E cx cl M0 w0 N n Am az x0 μ0 wS zR y listed a w done l hist z tr μ xh){x:AS}(hb:jV x0.c pre z x)(Bv:∀f∈pre,f∈tr)(hl:∀f∈pre,listed.getD f.i false=true)(hn:∀f∈pre,f.o.op.kd≠2) 
  (Yi:∀f∈tr,listed.getD f.i false=true→f∉pre→f.k≠0) :
  x.c=xh.c∧(∀nm blk,sget x.s nm=some blk→μ nm≠none→sget xh.s nm=some blk)∧Rel E M0 w0 N μ a w x:=by
 obtain⟨g1,g2,g3⟩:=hb.2.2.2 hn;have hs:∀nm blk,sget x.s nm=some blk→μ nm≠none→sget xh.s nm=some blk:=fun nm blk e1 e2=>by
  rcases g2 nm blk e1 with e|⟨f,hf,e3,rfl⟩
  ·exact h.st1 nm blk e e2
  ·exact(h.st2 f (Bv f hf) (hl f hf) blk e3).1
 refine⟨g1.trans h.c.symm,hs,h.rel.restrict (fun m=>?_) hs (by rw[g1,h.c];omega) (hb.2.1.trans h.d.symm)⟩
 rcases hb.1 m with⟨f,hf,e1,e2⟩|⟨e1,e2⟩
 ·left
  rw[e2,h.tmp1 f (Bv f hf) (hl f hf) m e1]
 ·by_cases Gg:∃f∈tr,listed.getD f.i false=true∧f.o.dst=some m
  ·obtain⟨f,hf,Il,hd⟩:=Gg
   right
   rw[e2];exact h.kil f.ent (jD h.can f hf) (Yi f hf Il fun hm=>e1 f hm hd) m hd
  ·left
   rw[e2];exact(h.tmp2 m fun f hf hl hd=>Gg ⟨f,hf,hl,hd⟩).symm
theorem Inv.acted(h:Inv E cx cl M0 w0 N n Am az x0 μ0 wS zR y listed a w done l hist z tr μ xh){e:Ev}(he:tr=pre++e::post)(hk:e.o.op.kd=2) 
  (Ae:e.i<listed.size) (Da:listed.getD e.i false=false) (Cg:∀q,(Am.getD e.i 0).testBit q=true→listed.getD q false=true)
  (Cp:∀j,listed.getD j false=true→∀q,(Am.getD j 0).testBit q=true→listed.getD q false=true)
  {l2:List Ent} (Kf:l=pre.map Ev.ent++(e.ent::l2)) {z':AS} (Jt:mH cx cl x0.c l2 (e.x.s::e.hist) z' post zR y) (ht:z'.t=iO e.o.dst e.x.t e.d) (hzd:z'.d=e.x.d) (Gc:z'.r=e.x.r)
  {a':Act} {w':World} {μ':Mu} (hR:Rel E M0 w0 N μ' a' w' z') (Oq:∀m,e.o.dst≠some m→a'.tmps.getD m undef=a.tmps.getD m undef) (hf:Fr e.x.c e.x.s μ w z'.c z'.s μ' w') :
  ∃He Fp,Inv E cx cl M0 w0 N n Am az x0 μ0 wS zR y (listed.setIfInBounds e.i true) a' w' He l2 (e.x.s::e.hist) z' post μ' Fp:=by
 obtain⟨h1,h2,_⟩:=lU h.can he;obtain⟨hl,hn⟩:=h.before he hk Cg;have Bv:∀f∈pre,f∈tr:=fun f hf=>by grind
 have Lm:∀f∈post,f∈tr:=fun f hf=>by grind
 obtain⟨m1,m2,m3⟩:=h.meet h2 Bv hl hn (h.late he hk Da hn Cp);obtain⟨ap1,ap2⟩:=h.apart he;have ho:=h.ord;rw[Kf]at ho;have Gk:=ho.drop;obtain⟨g1,g2,g3,g4,g5,g6,g7,g8,g9⟩:=Gk;have hge:=h.ge;have Jb:=h.c;have hL:∀j,(listed.setIfInBounds e.i true).getD j false=if j=e.i then true else listed.getD j false:=fun j=>tW _ _ _ Ae
 -- a block that was Zr Qx
 have Qx:∀f∈post,listed.getD f.i false=true→∀blk,f.nb=some blk→sget e.x.s (x0.c+f.i)=none∧sget z'.s (x0.c+f.i)=none:=by
  intro f hf Il blk hb;obtain⟨q1,q2,hq⟩:=List.append_of_mem hf;have Ip:tr=(pre++e::q1)++f::q2:=by rw[he,hq];simp
  obtain⟨_,_,_,_,c4⟩:=lU h.can Ip;obtain⟨a1,a2⟩:=canon_alloc c4 hb;have Ca:=h.room Ip (by omega) (Cp _ Il)
  obtain⟨s1,b1,_,_,b4⟩:=phase h.can Ip Ca;have Ax:=b4 pre e q1 rfl hn hk;refine⟨by rw[←Ax];exact a1 s1 b1,?_⟩
  have Rw:(q1.filterMap uD).length≤f.k:=by
   refine fZ ?_ Ca;rw[List.filterMap_append,dZ,List.filterMap_cons,yO hk];simp;omega
  obtain⟨s2,d1,_,d3,_⟩:=phase Jt hq Rw;cases hz:sget z'.s (x0.c+f.i) with
  | none=>rfl
  | some q=>grind
 -- the store with Oc was Zr Qx
 let L:List (Nat×Blk):=post.filterMap fun f=>match f.nb with
  | some blk=>bif listed.getD f.i false then some (x0.c+f.i,blk) else none
  | none=>none
 have hLm:∀nm blk,(nm,blk)∈L→∃f∈post,listed.getD f.i false=true∧f.nb=some blk∧nm=x0.c+f.i:=fun nm blk hm=>by
  simp only[L,List.mem_filterMap]at hm;obtain⟨f,hf,e1⟩:=hm
  grind
 have hmL:∀f∈post,listed.getD f.i false=true→∀blk,f.nb=some blk→(x0.c+f.i)∈L.map (·.1):=fun f hf Il blk hb=>by
  grind
 obtain⟨s2,Az⟩:=store_over z'.s L;have hx:Ext (Mm M0 μ) w (Mm M0 μ') w':=hf.ext;have Iz:Fr xh.c e.x.s μ w z'.c z'.s μ' w':=by rw[←m1];exact hf
 obtain⟨Et,Mo⟩:=h.rel.lift m2 hR Iz (s2:=s2) (t2:=iO e.o.dst xh.t e.d) (fun nm blk hb An=>by
   by_cases hm:nm∈L.map (·.1)
   ·obtain⟨Bt,k1,k2⟩:=(Az nm).1 hm;rw[hb]at k2;cases k2;obtain⟨f,hf,Il,Qk,rfl⟩:=hLm nm blk k1;obtain⟨e1,e2⟩:=h.st2 f (Lm f hf) Il blk Qk
    grind
   grind) (fun m=>by
   rw[lG];by_cases hd:e.o.dst=some m
   ·rw[aS hd];have:=hR.tm m
    grind [lG]
   ·rw[aG hd,Oq m hd];exact aY.mono hx _ _ hf.mu (h.rel.tm m))
 have hext:∀m,e.o.dst≠some m→(∀f∈post,listed.getD f.i false=true→f.o.dst≠some m)→tget xh.t m=tget e.x.t m:=fun m hd hp=>by
  rcases h2.1 m with⟨f,hf,e1,e2⟩|⟨e1,e2⟩
  ·rw[e2,h.tmp1 f (Bv f hf) (hl f hf) m e1]
  ·rw[e2];refine h.tmp2 m fun f hf Il hd'=>?_
   grind
 refine⟨(e.i,e.o)::(oG (pre.map Ev.ent)++done),_,{
  ord:=g9
  can:=Jt
  dn:=fun p hp=>by
   grind
  ne:=fun f hf Bn=>by
   rw[hL,aG]
   ·exact h.ne f (by grind) Bn
   ·exact(g9.mem hf (p:=(e.i,e.o)) cE).1
  rel:=Et
  c:=rfl
  d:=rfl
  r:=rfl
  r0:=by rw[Gc,h2.2.2.1];exact h.r0
  ge:=by have:=Iz.cle;omega
  tmp1:=fun f hf Il m hm=>by
   have:=ap2 f hf;rw[hL,aG this.1]at Il;rw[lG,aG (this.2 m hm)];exact h.tmp1 f (Lm f hf) Il m hm
  tmp2:=fun m hm=>by
   grind [lG]
  kil:=fun f hf Nx m hm=>by
   obtain⟨_,k2,_⟩:=g9.mem hf (p:=(e.i,e.o)) cE;rw[ht,lG,aG (k2 m hm)];rcases h2.1 m with⟨f',Ha,e1,e2⟩|⟨e1,e2⟩
   ·exact absurd e1 ((g9.mem hf (p:=(f'.i,f'.o)) (dA _ (mem_preOf Ha))).2.1 m hm)
   ·rw[e2];exact h.kil f (by grind) Nx m hm
  st1:=fun nm blk hb An=>by
   have hm:nm∉L.map (·.1):=fun hm=>by
    obtain⟨p,hp,e1⟩:=cY.1 hm
    grind
   show sget s2 nm=some blk;rw[(Az nm).2 hm];exact hb
  st2:=fun f hf Il blk hb=>by
   rw[hL,aG (ap2 f hf).1]at Il;obtain⟨Bt,k1,k2⟩:=(Az _).1 (hmL f hf Il blk hb);obtain⟨f',Ha,hlf',hnb',e2⟩:=hLm _ _ k1;have:f'=f:=h.unique (Lm f hf) (Lm f' Ha) (by omega)
   subst this;rw[hb]at hnb';cases hnb';refine⟨k2,?_⟩;obtain⟨_,e3⟩:=h.st2 f' (Lm f' hf) Il blk hb;cases hm:μ (x0.c+f'.i) with
   | none=>grind
   | some lc=>rw[hf_mu_some Iz hm];simp
  unm:=fun f hf Il=>by
   have Bj:f∈l:=by rw[Kf];exact List.mem_append_right _ (dA _ hf)
   rw[hL,aG (g9.mem hf (p:=(e.i,e.o)) cE).1]at Il;have zQ:=(h.ord.get f Bj).2;exact Iz.kept _ (by omega) (h.unm f Bj Il)
  fr:=h.fr.trans' (Mo.weaken (by omega)) }⟩
end
variable {ops:Array Oper}
def ancOf(o:Oper)(acc:List Nat):Nat:=
 o.after.toList.foldl (fun s e=>bif Region.binds .any e then s ||| 2 ^ e.on ||| acc.getD e.on 0 else s) 0
theorem ancs_spec:∀(l:List Oper) (acc:List Nat),∃r,ancs l acc=acc++r∧r.length=l.length∧∀k o,l[k]?=some o→r[k]?=some (ancOf o (acc++r.take k))
 | [],acc=>⟨[],by simp[ancs],rfl,fun k o h=>by simp at h⟩
 | o::l,acc=>by
  obtain⟨r,h1,h2,h3⟩:=ancs_spec l (acc++[ancOf o acc]);refine⟨ancOf o acc::r,?_,by simp[h2],fun k o' hk=>?_⟩
  ·grind [ancs,ancOf]
  ·cases k with
   | zero=>grind
   | succ k=>
    grind
theorem fold_bit{acc:List Nat}{i:Nat}:∀(l:List Edge) (s:Nat),
  (l.foldl (fun s e=>bif Region.binds .any e then s ||| 2 ^ e.on ||| acc.getD e.on 0 else s) s).testBit i=true →
  s.testBit i=true∨∃e∈l,Region.binds .any e=true∧(e.on=i∨(acc.getD e.on 0).testBit i=true)
 | [],s,h=>.inl h
 | e::l,s,h=>by
  rw[List.foldl_cons]at h;rcases fold_bit l _ h with h|⟨e',h1,h2⟩
  ·cases hb:Region.binds .any e with
   | false=>rw[hb]at h;exact .inl h
   | true=>
    rw[hb]at h;simp only[bG,Nat.testBit_or,Bool.or_eq_true,Nat.testBit_two_pow,bZ]at h;rcases h with(h|h)|h
    ·exact .inl h
    ·exact .inr ⟨e,cE,hb,.inl h⟩
    ·exact .inr ⟨e,cE,hb,.inr h⟩
  ·exact .inr ⟨e',dA _ h1,h2⟩
theorem anc_bit{i j:Nat}(h:((ancs ops.toList []).getD j 0).testBit i=true):
  ∃o e,ops[j]?=some o∧e∈o.after∧Region.binds .any e=true∧(e.on=i∨(e.on<j∧((ancs ops.toList []).getD e.on 0).testBit i=true)):=by
 obtain⟨r,h1,h2,h3⟩:=ancs_spec ops.toList [];rw[cK]at h1;rw[h1]at h ⊢;have hj:j<ops.toList.length:=by
  rcases Nat.lt_or_ge j r.length with hl|hl
  ·omega
  ·grind
 have ho:ops.toList[j]?=some ops.toList[j]:=aI hj;have hr:=h3 j _ ho;rw[mJ,hr,Option.getD_some,ancOf,cK]at h;rcases fold_bit _ _ h with h|⟨e,he,hb,h⟩
 ·simp at h
 ·refine⟨ops.toList[j],e,by simp,by simpa using he,hb,?_⟩
  rcases h with h|h
  ·exact .inl h
  ·right
   rcases Nat.lt_or_ge e.on j with hl|hl
   ·refine⟨hl,?_⟩;rw[mJ,List.getElem?_take_of_lt hl,←mJ]at h;exact h
   ·rw[mJ,kH (by rw[eI];omega)]at h
    simp at h
def Down(ops:Array Oper)(listed:Array Bool):Prop:=
 ∀(j:Nat) (o:Oper) (e:Edge),listed.getD j false=true→ops[j]?=some o→e∈o.after→Region.binds .any e=true→listed.getD e.on false=true
theorem anc_listed{listed:Array Bool}(hd:Down ops listed){i:Nat}:∀(j:Nat),
  (∀o e,ops[j]?=some o→e∈o.after→Region.binds .any e=true→listed.getD e.on false=true) →
  ((ancs ops.toList []).getD j 0).testBit i=true→listed.getD i false=true:=by
 intro j
 induction j using Nat.strongRecOn with
 | ind j ih=>
  intro hr h;obtain⟨o,e,ho,he,hb,hc⟩:=anc_bit h;have hl:=hr o e ho he hb;rcases hc with rfl|⟨zQ,hc⟩
  ·exact hl
  ·exact ih e.on zQ (fun o' e' Gk Ci Ad=>hd e.on o' e' hl Gk Ci Ad) hc
theorem fold_has{acc:List Nat}{i:Nat}:∀(l:List Edge) (s:Nat),(s.testBit i=true∨∃e∈l,Region.binds .any e=true∧e.on=i) →
  (l.foldl (fun s e=>bif Region.binds .any e then s ||| 2 ^ e.on ||| acc.getD e.on 0 else s) s).testBit i=true
 | [],s,h=>by
  grind
 | e::l,s,h=>by
  rw[List.foldl_cons];refine fold_has l _ ?_
  grind
theorem anc_edge{j:Nat}{o:Oper}{e:Edge}(ho:ops[j]?=some o)(he:e∈o.after)(hb:Region.binds .any e=true):((ancs ops.toList []).getD j 0).testBit e.on=true:=by
 obtain⟨r,h1,h2,h3⟩:=ancs_spec ops.toList [];rw[cK]at h1;rw[h1];have hr:=h3 j o (by simpa using ho)
 rw[mJ,hr,Option.getD_some,ancOf,cK];exact fold_has _ _ (.inr ⟨e,by simpa using he,hb,rfl⟩)
theorem cOpers_get{P:Program}{N:Nat}{ops:Array Oper}:∀(l:List Oper) (az:List cR),lZ P N ops l=some az →
  ∀(k:Nat) (o:Oper),l[k]?=some o→∃ao,az[k]?=some ao∧yV P N ops o=some ao
 | [],az,hc,k,o,h=>by simp at h
 | o::l,az,hc,k,o',hk=>by
  simp only[lZ,aC,aB,aD]at hc;obtain⟨ao,h1,as',h2,rfl⟩:=hc;cases k with
  | zero=>grind
  | succ k=>
   simp only[List.getElem?_cons_succ]at hk;obtain⟨ao',h5,h6⟩:=cOpers_get l as' h2 k o' hk
   grind
theorem getD_lt{l:Array Bool}{k:Nat}(h:k<l.size)(d d':Bool):l.getD k d=l.getD k d':=by
 grind
theorem canon_normal{cx:Cx}{cl:CL}{c0:Nat}{l:List Ent}{hist:List St}{z:AS}{tr:List Ev}{zR:Out}{y:AS}(h:mH cx cl c0 l hist z tr zR y)(hn:∀e∈l,e.2.2.op.kd≠2):zR = .normal:=by
 induction h with
 | nil=>rfl
 | look _ _ _ ih=>grind
 | alloc _ _ _ _ _ _ ih=>grind
 | act hk _ _ _=>grind
 | pan hk _ _ _=>simp_all
section
variable {E:Env} {cx:Cx} {cl:CL} {M0:Nat→Prop} {w0:World} {N:Nat} {M:Nat→Prop} {n:Nat} {Am:List Nat} {az:List cR} {x0:AS} {μ0:Mu} {wS:World} {zR:Out} {y:AS}
 {listed:Array Bool} {a:Act} {w:World} {done:List (Nat×cR)} {l:List Ent} {hist:List St} {z:AS} {tr:List Ev} {μ:Mu} {xh:AS}
 {ops:Array Oper} {b:Frame} {k:List Item} {cs:List Frame}
theorem Fr.part{c c':Nat}{s s':St}{μ:Mu}{w:World}(hc:c≤c')(hs:∀nm blk,sget s' nm=some blk→μ nm≠none→sget s nm=some blk):Fr c s μ w c' s' μ w:=
 ⟨aK _,fun _ _ _=>rfl,fun b _ ⟨nm,l,h1,h2,h3⟩=>by
  obtain⟨bk,hbk⟩:=eP.1 h1;exact⟨nm,l,by grind,h2,h3⟩,gJ.refl μ,hc,fun _ _ h=>h,nonew⟩
theorem Inv.act(h:Inv E cx cl M0 w0 N n Am az x0 μ0 wS zR y listed a w done l hist z tr μ xh)(Bo:oF E cl)(hM:∀t n f,cx.M t n=some f→oT E.P t n=some f)(hG:cx.G=E.G)(Ai:gR b x0.r μ0)
  {pre:List Ev} {e:Ev} {post:List Ev} (he:tr=pre++e::post) (hk:e.o.op.kd=2)
  (Ae:e.i<listed.size) (Da:listed.getD e.i false=false) (Cg:∀q,(Am.getD e.i 0).testBit q=true→listed.getD q false=true)
  (Cp:∀j,listed.getD j false=true→∀q,(Am.getD j 0).testBit q=true→listed.getD q false=true)
  {o:Oper} (ho:ops[e.i]?=some o) (Qr:yV E.P N ops o=some e.o) (rest:List Nat) :
  (∃a' w' He l' Qp z' tr' μ' Fp,Inv E cx cl M0 w0 N n Am az x0 μ0 wS zR y (listed.setIfInBounds e.i true) a' w' He l' Qp z' tr' μ' Fp ∧
   Steps E.P (lone (fat b a (.inRegion ops (e.i::rest)::k)) cs w) (lone (fat b a' (.inRegion ops rest::k)) cs w')) ∨
  Did E M0 w0 N μ0 wS x0 (lone (fat b a (.inRegion ops (e.i::rest)::k)) cs w) b k cs zR y:=by
 obtain⟨h1,h2,l2,h3,h4⟩:=lU h.can he;obtain⟨hl,hn⟩:=h.before he hk Cg;obtain⟨Ex,hdst,Gx,hd⟩:=nJ Qr;obtain⟨m1,m2,m3⟩:=h.meet h2 (fun f hf=>by grind) hl hn (h.late he hk Da hn Cp)
 have hge:=h.ge;have Jb:=h.c;have Ko:gR b e.x.r μ:=by rw[h2.2.2.1,h.r0];exact Ai.mono h.fr.mu
 have hc:=h4;have Vt:e.x.r=x0.r:=by rw[h2.2.2.1];exact h.r0
 obtain⟨ei,ek,eo,ehist,ex,ed,enb⟩:=e;simp only at *;cases hc with
 | look Br=>grind
 | alloc Br=>grind
 | @act _ _ _ _ _ _ z' _ _ _ _ _ hw Jt=>
  left
  rcases hw with⟨hw,Yn,hz⟩|⟨hw,hz,ht,hzd,Gc⟩
  ·subst Yn;have Lu:=kC m3 Gx hw;have zZ:=lT (P:=E.P) (b:=b) (a:=a) (k:=k) (cs:=cs) (w:=w) (ops:=ops) (i:=ei) (rest:=rest) (by simp[ho,Lu])
   simp only[ho,bE]at zZ;have Bp:=m3.put (dst:=o.dst) (d:=.tup []) (v:=undef) hd (by simp only[aY];exact⟨#[],rfl,rfl⟩)
   have Ef:Rel E M0 w0 N μ (a.put o.dst undef) w z':=by
    rw[hz,hdst];revert Bp;cases o.dst<;>exact id
   obtain⟨He,Fp,hI⟩:=h.acted he hk Ae Da Cg Cp h3 Jt (by rw[hz]) (by rw[hz]) (by rw[hz]) Ef (fun m hm=>uW _ _ _ _ (by grind)) (by grind [Fr.refl])
   exact⟨_,_,_,_,_,_,_,_,_,hI,.one zZ⟩
  ·have Lu:=kC m3 Gx hw;obtain⟨a',w',μ',ou,hR,Oq,hf,hr,hou,hends⟩:=op_didA (k:=k) (cs:=cs) (rest:=rest) Bo hM hG m3 Ko Qr ho Lu hz;cases hou;obtain⟨He,Fp,hI⟩:=h.acted he hk Ae Da Cg Cp h3 Jt ht hzd Gc hR (fun m hm=>Oq m (by grind)) hf
   exact⟨_,_,_,_,_,_,_,_,_,hI,hends⟩
 | pan _ hw hz hr=>
  right
  have Lu:=kC m3 Gx hw;obtain⟨a',w',μ',ou,hR,Oq,hf,hr,hou,hends⟩:=op_didA (k:=k) (cs:=cs) (rest:=rest) Bo hM hG m3 Ko Qr ho Lu hz;have zX:Fr x0.c x0.s μ0 wS _ _ μ' w':=(h.fr.trans' (Fr.part (c:=x0.c) (c':=ex.c) (by omega) m2)).trans' (hf.weaken (by omega))
  exact Did.pass (it:=.inRegion ops rest) (fun _=>rfl) nofun ⟨a',w',μ',ou,hR,zX,hr.trans Vt,hou,hends⟩
theorem Inv.finish(h:Inv E cx cl M0 w0 N n Am az x0 μ0 wS zR y listed a w done l hist z tr μ xh)(Aa:∀i,i<n→listed.getD i false=true):
  Did E M0 w0 N μ0 wS x0 (lone (fat b a (.inRegion ops []::k)) cs w) b k cs zR y:=by
 have Dl:∀e∈l,e.2.2.op.kd≠2:=fun e he hk=>by
  have:=h.ne e he hk;rw[Aa _ (h.ord.get e he).2]at this;cases this
 have hout:=canon_normal h.can Dl;subst hout;obtain⟨l2,z',h1,h2,h3⟩:=canon_pre h.can (pre:=tr) (post:=[]) (by simp) (.inr rfl)
 cases h2;have Ts:∀f∈tr,f.ent∈l:=jD h.can
 have hl:∀f∈tr,listed.getD f.i false=true:=fun f hf=>Aa _ (h.ord.get _ (Ts f hf)).2
 obtain⟨m1,m2,m3⟩:=h.meet h3 (fun f hf=>hf) hl (fun f hf=>Dl _ (Ts f hf)) (fun f hf _ hn=>absurd hf hn)
 have hge:=h.ge;have Jb:=h.c;exact⟨a,w,μ,.normal,m3,h.fr.trans' (Fr.part (by omega) m2),by rw[h3.2.2.1];exact h.r0,rfl,.one lI⟩
theorem tZ{listed:Array Bool}:∀(l:List Ent),(∃e∈l,listed.getD e.1 false=false)→∃l1 e l2,l=l1++e::l2∧(∀f∈l1,listed.getD f.1 false=true)∧listed.getD e.1 false=false
 | [],h=>by grind
 | f::r,h=>by
  cases hf:listed.getD f.1 false with
  | false=>exact⟨[],f,r,rfl,fun g hg=>(by cases hg),hf⟩
  | true=>
   obtain⟨e,he,hl⟩:=h;rcases cH.1 he with rfl|he
   ·grind
   ·obtain⟨l1,g,l2,h1,h2,h3⟩:=tZ r ⟨e,he,hl⟩
    grind
theorem count_set(listed:Array Bool)(n i:Nat)(hi:i<n)(Ae:i<listed.size)(h0:listed.getD i false=false):
  (List.range n).countP (fun j=>!(listed.setIfInBounds i true).getD j false)+1≤(List.range n).countP (fun j=>!listed.getD j false):=by
 obtain⟨l1,l2,hl⟩:=List.append_of_mem (List.mem_range.2 hi);rw[hl];simp only[List.countP_append,List.countP_cons];have hm:∀(L:List Nat),L.countP (fun j=>!(listed.setIfInBounds i true).getD j false)≤L.countP (fun j=>!listed.getD j false):=fun L=>
  List.countP_mono_left fun j _ hj=>by
   grind [tW]
 grind [tW]
theorem Inv.run(Bo:oF E cl)(hM:∀t n f,cx.M t n=some f→oT E.P t n=some f)(hG:cx.G=E.G)(Ai:gR b x0.r μ0)(hops:∀(k:Nat) (o:Oper),ops[k]?=some o→∃ao,az[k]?=some ao∧yV E.P N ops o=some ao)
  (Cg:Am=ancs ops.toList []) (hnn:n=ops.size):∀(fuel t:Nat) (listed:Array Bool) (a:Act) (w:World) (done:List (Nat×cR)) (l:List Ent) (hist:List St) (z:AS) (tr:List Ev) (μ:Mu) (xh:AS),
  Inv E cx cl M0 w0 N n Am az x0 μ0 wS zR y listed a w done l hist z tr μ xh→listed.size=n→Down ops listed→(List.range n).countP (fun j=>!listed.getD j false)≤fuel →
  Did E M0 w0 N μ0 wS x0 (lone (fat b a (.inRegion ops (Region.linearise.go .any ops fuel t listed [])::k)) cs w) b k cs zR y:=by
 intro fuel
 induction fuel with
 | zero=>
  intro t listed a w done l hist z tr μ xh h Ae Ja hcnt;have:Region.linearise.go .any ops 0 t listed []=[]:=by simp[Region.linearise.go]
  rw[this];refine h.finish fun i hi=>?_
  simp_all
 | succ fuel ih=>
  intro t listed a w done l hist z tr μ xh h Ae Ja hcnt;have Fb:∀j,listed.getD j false=true→∀q,(Am.getD j 0).testBit q=true→listed.getD q false=true:=fun j hj q hq=>by
   rw[Cg]at hq;exact anc_listed Ja j (fun o e ho he hb=>Ja j o e hj ho he hb) hq
  simp only[Region.linearise.go];change Did E M0 w0 N μ0 wS x0 (lone (fat b a (.inRegion ops (match(Region.ready .any ops listed)[t % (Region.ready .any ops listed).length]? with
   | some i=>Region.linearise.go .any ops fuel (t / (Region.ready .any ops listed).length) (listed.setIfInBounds i true) [i]
   | none=>[].reverse)::k)) cs w) b k cs zR y
  cases hi:(Region.ready .any ops listed)[t % (Region.ready .any ops listed).length]? with
  | none=>
   simp only[List.reverse_nil];refine h.finish fun i Cy=>?_
   cases hli:listed.getD i false with
   | true=>rfl
   | false=>
    exfalso;have Mh:Region.ready .any ops listed=[]:=by
     cases hr:Region.ready .any ops listed with
     | nil=>rfl
     | cons x xs=>
      grind [Nat.mod_lt,aI]
    have Gg:∃e∈l,listed.getD e.1 false=false:=by
     rcases h.ord.total i Cy with hd|⟨e,he,rfl⟩
     ·obtain⟨p,hp,rfl⟩:=cY.1 hd;rw[h.dn p hp]at hli;cases hli
     ·grind
    obtain⟨l1,e,l2,e1,e2,e3⟩:=tZ l Gg;have ho:=h.ord;rw[e1]at ho;obtain⟨ei,ek,eo⟩:=e;obtain⟨g1,g2,g3,g4,_⟩:=ho.drop;simp only at e3;have zQ:ei<ops.size:=by rw[←hnn];exact g2
    have hoi:ops[ei]?=some ops[ei]:=Array.getElem?_eq_getElem zQ;have Gl:ei∈Region.ready .any ops listed:=by
     rw[mem_ready];refine⟨by rw[getD_lt (by omega) true false];exact e3,_,hoi,fun e' Ci hb=>?_⟩
     have Ce:=anc_edge hoi Ci hb;rw[←Cg]at Ce;have hm:=g4 _ Ce;obtain⟨p,hp,On⟩:=cY.1 hm;rw[←On];rcases List.mem_append.1 hp with hp|hp
     ·simp only[oG,List.mem_reverse,cY]at hp
      grind
     ·exact h.dn p hp
    grind
  | some i=>
   simp only;rw[linearise_go_acc,List.reverse_singleton,List.singleton_append];have Gl:=List.mem_of_getElem? hi;obtain⟨h0,o,ho,hallr⟩:=mem_ready.1 Gl;have zQ:i<ops.size:=(Array.getElem?_eq_some_iff.1 ho).1;rw[getD_lt (by omega) true false]at h0
   have hA:∀q,(Am.getD i 0).testBit q=true→listed.getD q false=true:=fun q hq=>by
    grind [anc_listed]
   obtain⟨pre,e,post,Ts,rfl⟩:=h.find (by omega) h0 hA
   obtain⟨ao,Dh,Qr⟩:=hops _ o ho;have hae:ao=e.o:=by
    have:=(h.ord.get e.ent (jD h.can e (by rw[Ts];simp))).1
    exact Option.some.inj (Dh.symm.trans this)
   subst hae;have hdn':Down ops (listed.setIfInBounds e.i true):=fun j o' e' hj Gk Ci Ad=>by
    rw[tW _ _ _ (by omega)]at hj ⊢
    split
    ·rfl
    ·by_cases Hp:j=e.i
     ·grind
     ·rw[aG Hp]at hj;exact Ja j o' e' hj Gk Ci Ad
   have hcnt':=count_set listed n e.i (by omega) (by omega) h0
   by_cases hk:e.o.op.kd=2
   ·rcases h.act (k:=k) (cs:=cs) Bo hM hG Ai Ts hk (by omega) h0 hA Fb ho Qr (Region.linearise.go .any ops fuel (t / (Region.ready .any ops listed).length) (listed.setIfInBounds e.i true) []) with⟨a',w',He,l',Qp,z',tr',μ',Fp,hI,zZ⟩|hD
    ·grind [Did.of_steps]
    ·exact hD
   ·obtain⟨a',w',μ',Fp,hI,zZ⟩:=h.look (b:=b) (k:=k) (cs:=cs) hG Ts hk (by omega) h0 hA Fb ho Qr (Region.linearise.go .any ops fuel (t / (Region.ready .any ops listed).length) (listed.setIfInBounds e.i true) [])
    grind [Did.of_steps]
end
theorem rK:∀(l:List Ent) (t:Tm) (n:Nat),(tget (cN l t) n=tget t n∨tget (cN l t) n = .un)∧((∃e∈l,e.2.1≠0∧e.2.2.dst=some n)→tget (cN l t) n = .un)
 | [],t,n=>⟨.inl rfl,fun⟨o,ho,_⟩=>by cases ho⟩
 | e::r,t,n=>by
  simp only[cN];cases hk:Nat.beq e.2.1 0 with
  | true=>
   simp only[bG];obtain⟨h1,h2⟩:=rK r t n
   grind [absurd,bH]
  | false=>
   simp only[cO];obtain⟨h1,h2⟩:=rK r (iO e.2.2.dst t .un) n
   grind [tget,iO,lG,cN,absurd]
structure Ctx (E:Env) (cx:Cx) (cl:CL):Prop where
 call:oF E cl
 meth:∀t n f,cx.M t n=some f→oT E.P t n=some f
 glob:cx.G=E.G
 mixed:E.P.follows .mixedOrders=true
section
variable {E:Env} {cx:Cx} {cl:CL} {M0:Nat→Prop} {w0:World} {N:Nat} {μ:Mu} {M:Nat→Prop} {a:Act} {w:World} {x:AS} {b:Frame} {k:List Item} {cs:List Frame}
variable {P:Program} {l:Nat}
theorem region_any(H:Ctx E cx cl){ops:Array Oper}{az:List cR}(h:Rel E M0 w0 N μ a w x)(Ai:gR b x.r μ)(hc:lZ E.P N ops ops.toList=some az){ord:List (Nat×Nat)} 
  (Av:nS ops.size (ancs ops.toList []) az ord 0 [] []=true) (zU:Nat.ble ops.size ord.length=true) {id fuel:Nat} {zR:Out} {y:AS}
  (hs:zC (.reg (some ord) (ord.filterMap fun p=>az[p.1]?)) cx cl fuel x = .ok zR y) :
  Did E M0 w0 N μ w x (lone (fat b a (.code (.region id ops true)::k)) cs w) b k cs zR y:=by
 have hs':sL cx cl x.c (dR ord (ord.filterMap fun p=>az[p.1]?)) [] ⟨cN (dR ord (ord.filterMap fun p=>az[p.1]?)) x.t,x.s,x.c+(ord.filterMap fun p=>az[p.1]?).length,x.d,x.r⟩ = .ok zR y:=hs
 obtain⟨Vj,hl⟩:=xX ops.size (ancs ops.toList []) az ord 0 [] [] [] (fun j=>by simp) rfl rfl Av
 obtain⟨tr,Jt⟩:=nA hs';have Ac:=cU zU;generalize hL:(ord.filterMap fun p=>az[p.1]?)=L at *
 generalize hZ:dR ord L=Z at *
 let w1:World:={ w with drawn:=w.drawn+1 }
 have Mb:Rel E M0 w0 N μ a w1 ⟨cN Z x.t,x.s,x.c+L.length,x.d,x.r⟩:=
  (h.world (w':=w1) rfl).restrict (fun n=>(rK Z x.t n).1) (fun nm blk hb _=>hb) (Nat.le_add_right _ _) rfl
 have Ho:∀j,(Array.replicate ops.size false).getD j false=false:=fun j=>by
  simp[gV,Array.getElem?_replicate];split<;>rfl
 have hI:Inv E cx cl M0 w0 N ops.size (ancs ops.toList []) az x μ w zR y (Array.replicate ops.size false) a w1 [] Z [] ⟨cN Z x.t,x.s,x.c+L.length,x.d,x.r⟩ tr μ ⟨cN Z x.t,x.s,x.c+L.length,x.d,x.r⟩:={
  ord:=Vj
  can:=Jt
  dn:=fun p hp=>by cases hp
  ne:=fun e _ _=>Ho _
  rel:=Mb
  c:=rfl
  d:=rfl
  r:=rfl
  r0:=rfl
  ge:=by grind
  tmp1:=fun e _ hl=>by grind
  tmp2:=fun m _=>rfl
  kil:=fun e he Nx m hm=>(rK Z x.t m).2 ⟨e,he,Nx,hm⟩
  st1:=fun nm blk hb _=>hb
  st2:=fun e _ hl=>by grind
  unm:=fun e _ _=>h.free (Nat.le_add_right _ _)
  fr:=⟨aK _,fun _ _ _=>rfl,fun _ _ hl=>hl,gJ.refl μ,Nat.le_add_right _ _,fun _ _ e=>e,nonew⟩ }
 refine Did.of_steps (.one yH) ?_;simp only[Region.schedule,H.mixed,Bool.true_or,if_true,Region.linearise];refine Inv.run H.call H.meth H.glob Ai (fun k o ho=>cOpers_get ops.toList az hc k o (by simpa using ho)) rfl rfl ops.size _ _ a w1 [] _ [] _ tr μ _ hI (by simp) (fun j o e hj=>by grind) ?_
 simp_all
theorem run_enter_none{fn:FuncId}{tmps:Array Value}{ps:Array Tmp}{az bd:Code}{w:World}:
  (Instr.enterLoop fn tmps ps az bd none).run P w = .ok (w.heap.size+1,[{ target:=.collected w.heap.size,args:=#[] }])
   { w with heap:=(w.heap.push (.deferred (some []))).push (.loop { state:=.ready,pending:=none,fn,tmps,params:=ps,assign:=az,body:=bd,defers:=w.heap.size }) }:=by
 simp[Instr.enterLoop,newObj,Sem.run];rfl
theorem run_enter_some{fn:FuncId}{tmps:Array Value}{ps:Array Tmp}{az bd:Code}{w:World}{lo:Loop}(h:w.heap[l]?=some (.loop lo)):
  (Instr.enterLoop fn tmps ps az bd (some l)).run P w = .ok (w.heap.size,[])
   { w with heap:=w.heap.push (.loop { state:=.ready,pending:=none,fn,tmps,params:=ps,assign:=az,body:=bd,defers:=lo.defers }) }:=by
 simp[Instr.enterLoop,Instr.getLoop,newObj,getObj,Sem.run,h]
theorem step_rangeFunc{f:Operand}{ps:Array Tmp}{az bd:Code}{mark:List Deferred}{w1:World}(hr:(Instr.enterLoop b.fn a.tmps ps az bd b.roundOf).run P w = .ok (l,mark) w1){n:Next}{w2:World}{Jy:Frame} 
  (hs:(do let d ←Deferred.ofValue (a.eval f) #[.func (.yield l) #[] #[]];invoke d.target d.args:Sem Next).run P w1 = .ok n w2) (hn:Callee P n Jy) :
  Go.step P (lone (fat b a (.code (.rangeFunc f ps az bd)::k)) cs w) = .next (lone Jy (fat b { a with defers:=mark++a.defers } (.inRangeFunc l::k)::cs) w2):=by
 refine dK ?_;have he:(fat b { a with defers:=mark++a.defers } (.inRangeFunc l::k)).eval=a.eval:=by funext o;cases o<;>rfl
 have Au:(do let d ←resolve (fat b { a with defers:=mark++a.defers } (.inRangeFunc l::k)).eval { callee:=.value f,args:=#[.const (.func (.yield l) #[] #[])],argTypes:=#[] } 0;invoke d.target d.args:Sem Next).run P w1 = .ok n w2:=by
  rw[he,←hs];simp[resolve,Act.eval]
 have:=zB (cs:=cs) Au hn (fr:=fat b { a with defers:=mark++a.defers } (.inRangeFunc l::k)) rfl
 grind [fat,stepG,stepG.exec,Sem.runT_eq,GStep.bare_after]
theorem step_endRange{Kk:Option Code}{w1:World}(hr:(Instr.endLoop l).run P w = .ok Kk w1):
  Go.step P (lone (fat b a (.endRangeFunc l::k)) cs w) = .next (lone (fat b a ((Kk.map Item.code).toList++k)) cs w1):=by
 refine dK ?_;simp[stepG,stepG.exec,fat,hr]
theorem run_endLoop{lo:Loop}{w:World}(h:w.heap[l]?=some (.loop lo))(hb:lo.state≠.busy):
  (Instr.endLoop l).run P w = .ok lo.pending { w with heap:=w.heap.setIfInBounds l (.loop { lo with state:=.exhausted }) }:=by
 simp_all [absurd,Instr.endLoop,Instr.getLoop,getObj,setObj,Sem.run]
theorem rangeEnd(h:Rel E M0 w0 N μ a w x){nm:Nat}{loc:Loc}(hμ:μ nm=some loc)(hl:loc.blk=some l){zR:Out}{y:AS}(hs:mK nm x = .ok zR y):
  Did E M0 w0 N μ w x (lone (fat b a (.endRangeFunc l::k)) cs w) b k cs zR y:=by
 unfold mK at hs;split at hs
 ·rename_i st Ck t ps a' b' hg;have hB:=h.st nm _ loc hμ hg;obtain⟨loc',bk,lo,N',g1,g2,g3,g4,g5,g6,g7,g8,g9,Hx,Ps,Pr⟩:=hB;rw[hμ]at g1;cases g1;rw[hl]at g2;cases g2;have key:st ≠ .busy→∀o,(∃ou:Ou,OuRel (Mm M0 μ) w μ o ou∧ou ≠ .pan []∧(match Ck with|none=>o = .normal|some none=>o = .ret|some (some i)=>o = .exit i)) → 
    Did E M0 w0 N μ w x (lone (fat b a (.endRangeFunc l::k)) cs w) b k cs o ⟨x.t,sset x.s nm (.lp .exhausted Ck t ps a' b'),x.c,x.d,x.r⟩:=by
   intro zZ o ho
   let w':World:={ w with heap:=w.heap.setIfInBounds l (.loop { lo with state:=.exhausted }) }
   have zV:(Instr.endLoop l).run E.P w = .ok lo.pending w':=run_endLoop g4 (by grind)
   have zQ:l<w.heap.size:=(h.own nm loc l hμ hl).2;obtain⟨hx,hR,hf⟩:=h.write nm (.lp .exhausted Ck t ps a' b') loc l (w':=w') (x':=⟨x.t,sset x.s nm (.lp .exhausted Ck t ps a' b'),x.c,x.d,x.r⟩) hμ hl (by rw[hg];rfl) (by simp[w'])
    (fun q hq=>by grind) (fun n=>rfl) (fun n=>by rw[aU]) rfl rfl
    (fun hx=>⟨loc,l,{ lo with state:=.exhausted },N',hμ,hl,g3,by simp[w',zQ],rfl,g6,g7,g8,g9,Hx,Ps,fun n=>aY.mono hx _ _ (gJ.refl _) (Pr n)⟩)
   have zZ:=step_endRange (b:=b) (a:=a) (k:=k) (cs:=cs) zV;rw[g6]at zZ;obtain⟨ou,_,_,ho⟩:=ho;cases Ck with
   | none=>subst ho;exact⟨a,w',μ,.normal,hR,hf,rfl,rfl,.one zZ⟩
   | some j=>cases j with
    | none=>subst ho;exact⟨a,w',μ,.ret,hR,hf,rfl,rfl,k,.one zZ⟩
    | some i=>subst ho;exact⟨a,w',μ,.exit i,hR,hf,rfl,rfl,k,rfl,.one zZ⟩
  cases zZ:st with
  | busy=>grind
  | _=>
   rw[zZ]at hs;subst zZ;cases Ck with
   | none=>cases hs;exact key (by simp) _ ⟨.normal,rfl,by simp,rfl⟩
   | some j=>cases j with
    | none=>cases hs;exact key (by simp) _ ⟨.ret,rfl,by simp,rfl⟩
    | some i=>cases hs;exact key (by simp) _ ⟨.exit i,rfl,by simp,rfl⟩
 ·cases hs
end
end Zv
