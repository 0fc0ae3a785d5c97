/- Code of every kind does what the abstract code does: ranges over functions, and all code. Conditions: none. -/
import Derived.Test.YtnpoohbeicakkaaGreatDoorZAG
set_option linter.unusedSimpArgs false
set_option linter.unusedVariables false
namespace Zv
open Go
section
variable {E:Env} {cx:Cx} {cl:CL} {M0:Nat→Prop} {w0:World} {N:Nat} {μ:Mu} {M:Nat→Prop} {a:Act} {w:World} {x:AS} {b:Frame} {k:List Item} {cs:List Frame}
theorem range_call(H:Ctx E cx cl){fo:Operand}{g:Arg}(hg:dI fo=some g){ps:Array Tmp}{az bd:Code}{l:Nat}{mark:List Deferred}{w1:World}(hr:(Instr.enterLoop b.fn a.tmps ps az bd b.roundOf).run E.P w = .ok (l,mark) w1)
  {μ1:Mu} {x1:AS} (h1:Rel E M0 w0 N μ1 { a with defers:=mark++a.defers } w1 x1) (Mp:Fr x.c x.s μ w x1.c x1.s μ1 w1) (ht:x1.t=x.t) (Rv:x1.r=x.r) {nm:Nat} {loc:Loc} (hμ:μ1 nm=some loc) (hl:loc.blk=some l)
  {zR:Out} {y:AS} (hs:zbind (lY cx cl none x1 (g.ev cx.G x.t) [.yl nm]) (mK nm) = .ok zR y) :
  Did E M0 w0 N μ w x (lone (fat b a (.code (.rangeFunc fo ps az bd)::k)) cs w) b k cs zR y:=by
 rw[wM]at hs;obtain⟨o,z,hb,ho⟩:=zbind_inv hs;obtain⟨fo',s,c,hraw,hz⟩:=back_inv hb;have hv:=cW h1 hg;rw[ht,←H.glob]at hv;have he:({ a with defers:=mark++a.defers }:Act).eval fo=a.eval fo:=by cases fo<;>rfl
 rw[he]at hv;obtain⟨n,w2,Jy,zV,hn,hdel⟩:=raw_sound H.call H.meth h1.toS hv (args:=[.yl nm]) (vals:=#[.func (.yield l) #[] #[]]) (bI.cons (by grind [aY]) bI.nil) hraw
 have Bh:=step_rangeFunc (b:=b) (a:=a) (k:=k) (cs:=cs) hr zV hn;obtain⟨e,w3,⟨μ3,hS,hf3,Eb⟩,zZ⟩:=hdel (fat b { a with defers:=mark++a.defers } (.inRangeFunc l::k)) cs;have hR:=h1.carry hS hf3;have Qq:=Mp.trans hf3;rcases hz with⟨d,rfl,rfl,rfl⟩|⟨ch,rfl,rfl,rfl⟩
 ·obtain⟨v,rfl,_⟩:=Eb;rcases ho with⟨_,ho⟩|⟨An,_⟩
  ·have Rh:μ3 nm=some loc:=hf3.mu _ _ hμ;obtain⟨a',w',μ',ou,r1,r2,r3,r4,r5⟩:=rangeEnd (b:=b) (k:=k) (cs:=cs) hR Rh hl ho;exact⟨a',w',μ',ou,r1,Qq.trans r2,r3.trans Rv,r4,r5.of_steps (.head Bh zZ)⟩
  grind
 ·obtain⟨Aj,rfl,hc⟩:=Eb;rcases ho with⟨An,_⟩|⟨_,rfl,rfl⟩
  ·cases An
  ·exact⟨_,w3,μ3,.pan Aj,hR,Qq,Rv,⟨Aj,rfl,hc⟩,_,rfl,.head Bh zZ⟩
theorem range_did(H:Ctx E cx cl)(h:Rel E M0 w0 N μ a w x)(Ai:gR b x.r μ){fo:Operand}{g:Arg}(hg:dI fo=some g){ps:Array Tmp}{az bd:Code}{a' b':AC}(ha:comp E.P N az=some a')(hb:comp E.P N bd=some b')
  (Fu:(ps.toList.all fun p=>Nat.blt p N)=true) {fuel:Nat} {zR:Out} {y:AS} (hs:zC (.rfn g ps.toList a' b') cx cl fuel x = .ok zR y) :
  Did E M0 w0 N μ w x (lone (fat b a (.code (.rangeFunc fo ps az bd)::k)) cs w) b k cs zR y:=by
 have hs':zc_rfn g ps.toList a' b' (zC a') (zC b') cx cl fuel x = .ok zR y:=hs;unfold zc_rfn at hs';cases hr:x.r with
 | none=>
  rw[hr]at hs' Ai;simp only at hs';have Ko:b.roundOf=none:=Ai
  let wA:World:={ w with heap:=w.heap.push (.deferred (some [])) }
  obtain⟨Zz,hR1,Mp⟩:=h.fresh x.c (aK _) .dfd (.deferred (some [])) 0 (w':=wA) (x':=⟨x.t,sadd x.s x.c .dfd,x.c+1,x.d,x.r⟩) rfl (fun _=>rfl) (fun n=>aZ _ _ _ _) rfl rfl
   (fun hx hM=>⟨⟨some w.heap.size,0⟩,w.heap.size,by simp[eD],rfl,hM,by simp[wA]⟩)
  let lo:Loop:={ state:=.ready,pending:=none,fn:=b.fn,tmps:=a.tmps,params:=ps,assign:=az,body:=bd,defers:=w.heap.size }
  let w1:World:={ w with heap:=(w.heap.push (.deferred (some []))).push (.loop lo) }
  have Ae:wA.heap.size=w.heap.size+1:=by simp[wA]
  obtain⟨hx2,hR2,Gz⟩:=hR1.fresh (x.c+1) (aK _) (.lp .ready none x.t ps.toList a' b') (.loop lo) 0 (w':=w1) (x':=⟨x.t,sadd (sadd x.s x.c .dfd) (x.c+1) (.lp .ready none x.t ps.toList a' b'),x.c+2,x.d,none⟩) rfl
   (fun _=>rfl) (fun n=>aZ _ _ _ _) rfl rfl
   (fun hx hM=>⟨⟨some wA.heap.size,0⟩,wA.heap.size,lo,N,by simp[eD],rfl,hM,Array.getElem?_push_size,rfl,rfl,rfl,Fu,ha,hb,h.n,fun n=>
    aY.mono hx _ _ (hR1.free_le (aK _) _) (hR1.tm n)⟩)
  let μ1:=eD (eD μ x.c (some ⟨some w.heap.size,0⟩)) (x.c+1) (some ⟨some wA.heap.size,0⟩)
  have zV:(Instr.enterLoop b.fn a.tmps ps az bd b.roundOf).run E.P w = .ok (w.heap.size+1,[{ target:=.collected w.heap.size,args:=#[] }]) w1:=by
   rw[Ko];exact run_enter_none
  refine range_call H hg zV (μ1:=μ1) (x1:=⟨x.t,sadd (sadd x.s x.c .dfd) (x.c+1) (.lp .ready none x.t ps.toList a' b'),x.c+2,(.it x.c,[])::x.d,none⟩) ?_ (Mp.trans Gz) rfl hr.symm (nm:=x.c+1)
   (loc:=⟨some (w.heap.size+1),0⟩) (by grind [eD]) rfl hs'
  refine hR2.toS.frame hR2.n hR2.tm ?_;simp only[cA,cK,iR];exact⟨⟨some w.heap.size,0⟩,w.heap.size,a.defers,by simp[eD],rfl,rfl,hR2.defers⟩
 | some l0=>
  rw[hr]at hs';simp only at hs';split at hs'
  ·rename_i st pd t0 ps0 a0 b0 hg0;rw[hr]at Ai;obtain⟨loc0,l',k1,k2,k3⟩:=Ai;obtain⟨loc',bk,lo0,N',g1,g2,g3,g4,_⟩:=h.st l0 _ loc0 k1 hg0;rw[k1]at g1;cases g1;rw[k2]at g2;cases g2
   let lo:Loop:={ state:=.ready,pending:=none,fn:=b.fn,tmps:=a.tmps,params:=ps,assign:=az,body:=bd,defers:=lo0.defers }
   let w1:World:={ w with heap:=w.heap.push (.loop lo) }
   obtain⟨hx2,hR2,Gz⟩:=h.fresh x.c (aK _) (.lp .ready none x.t ps.toList a' b') (.loop lo) 0 (w':=w1) (x':=⟨x.t,sadd x.s x.c (.lp .ready none x.t ps.toList a' b'),x.c+1,x.d,some l0⟩) rfl
    (fun _=>rfl) (fun n=>aZ _ _ _ _) rfl rfl
    (fun hx hM=>⟨⟨some w.heap.size,0⟩,w.heap.size,lo,N,by simp[eD],rfl,hM,by simp[w1],rfl,rfl,rfl,Fu,ha,hb,h.n,fun n=>
     aY.mono hx _ _ (h.free_le (aK _) _) (h.tm n)⟩)
   have zV:(Instr.enterLoop b.fn a.tmps ps az bd b.roundOf).run E.P w = .ok (w.heap.size,[]) w1:=by
    rw[k3];exact run_enter_some g4
   exact range_call H hg zV (x1:=⟨x.t,sadd x.s x.c (.lp .ready none x.t ps.toList a' b'),x.c+1,x.d,some l0⟩) hR2 Gz rfl hr.symm (nm:=x.c) (loc:=⟨some w.heap.size,0⟩) (by simp[eD]) rfl hs'
  ·cases hs'
theorem zblk_inv{id:Nat}{r:R}{zR:Out}{y:AS}(h:(R.rec .no (zblk id) r:R) = .ok zR y):
  ∃o,r = .ok o y∧((o = .normal∧zR = .normal)∨(∃i,o = .exit i∧((i=id∧zR = .normal)∨(i≠id∧zR = .exit i)))∨(o = .ret∧zR = .ret)∨∃c,o = .pan c∧zR = .pan c):=by
 cases r with
 | no=>cases h
 | ok o z=>
  have h':zblk id o z = .ok zR y:=h;cases o with
  | normal=>cases h';grind
  | exit i=>
   have h2:(Bool.rec (.ok (.exit i) z) (.ok .normal z) (Nat.beq i id):R) = .ok zR y:=h';cases hb:Nat.beq i id<;>rw[hb]at h2
   ·cases h2;exact⟨_,rfl,.inr (.inl ⟨i,rfl,.inr ⟨fun e=>by simp_all,rfl⟩⟩)⟩
   simp_all
  | ret=>cases h';grind
  | pan c=>cases h';grind
theorem block_did{c:Code}{id:Nat}{r:R}{zR:Out}{y:AS}(hs:(R.rec .no (zblk (2*id)) r:R) = .ok zR y)
  (Du:∀o z,r = .ok o z→Did E M0 w0 N μ w x (lone (fat b a (.code c :: .inBlock id::k)) cs w) b (.inBlock id::k) cs o z) :
  Did E M0 w0 N μ w x (lone (fat b a (.code (.block id c)::k)) cs w) b k cs zR y:=by
 obtain⟨o,hr,ho⟩:=zblk_inv hs;refine Did.of_steps (.one fstep_block) ?_;obtain⟨a',w',μ',ou,r1,r2,r3,r4,r5⟩:=Du o y hr;rcases ho with⟨rfl,rfl⟩|⟨i,rfl,hi⟩|⟨rfl,rfl⟩|⟨c,rfl,rfl⟩
 ·cases r4;exact⟨a',w',μ',.normal,r1,r2,r3,rfl,fW r5 (.one vR)⟩
 ·cases r4;obtain⟨todo,t1,t2⟩:=r5;rcases hi with⟨rfl,rfl⟩|⟨An,rfl⟩
  ·exact⟨a',w',μ',.normal,r1,r2,r3,rfl,fW t2 (.one (wE (t1.trans (yF id k))))⟩
  ·exact⟨a',w',μ',.exit i,r1,r2,r3,rfl,todo,t1.trans (sA An k),t2⟩
 ·cases r4;exact⟨a',w',μ',.ret,r1,r2,r3,rfl,r5⟩
 ·obtain⟨ch,rfl,hc⟩:=r4;exact⟨a',w',μ',.pan ch,r1,r2,r3,⟨ch,rfl,hc⟩,r5⟩
theorem loop_did{c:Code}{f:AS→R}:∀(n:Nat) {μ:Mu} {a:Act} {w:World} {x:AS} {zR:Out} {y:AS},
  (∀{μ:Mu} {a:Act} {w:World} {x:AS} {zR:Out} {y:AS},Rel E M0 w0 N μ a w x→gR b x.r μ→f x = .ok zR y→Did E M0 w0 N μ w x (lone (fat b a (.code c :: .inLoop c::k)) cs w) b (.inLoop c::k) cs zR y) →
  Rel E M0 w0 N μ a w x→gR b x.r μ→zloop n f x = .ok zR y→Did E M0 w0 N μ w x (lone (fat b a (.code c :: .inLoop c::k)) cs w) b k cs zR y
 | 0,μ,a,w,x,zR,y,_,_,_,hs=>by cases hs
 | n+1,μ,a,w,x,zR,y,hf,h,Ai,hs=>by
  have hs':zbind (f x) (zloop n f) = .ok zR y:=hs;refine Did.zbind (it:=.inLoop c) (fun _=>rfl) hs' (fun o z hz=>hf h Ai hz) (fun z a' w' μ' g1 g2 g3 hz=>?_)
  exact Did.of_steps (.one yI) (loop_did n hf g1 (by rw[g3];exact Ai.mono g2) hz)
theorem stuck_no(cx:Cx)(cl:CL)(fuel:Nat)(x:AS):zC stuckC cx cl fuel x = .no:=rfl
theorem lab_of{P:Program}:∀(c:Code) {ac:AC},comp P N c=some ac→∀{l:Nat} {rest:Code},findLabel c l=some rest→(2*l+1)∈oU ac∧jG ac (2*l+1)≠none:=by
 intro c
 induction c with
 | label l'=>
  simp_all [comp,aD,findLabel,oU,jG]
 | seq p q Gb Ga=>
  intro ac hc l rest h;simp only[comp,aC,aB,aD]at hc
  grind [findLabel,oU,jG,absurd]
 | _=>grind [findLabel]
theorem rest_of{P:Program}:∀(c:Code) {ac:AC},comp P N c=some ac→∀{n:Nat} {r:AC},jG ac n=some r→∃l rest,n=2*l+1∧findLabel c l=some rest∧comp P N rest=some r:=by
 intro c
 induction c with
 | label l=>
  intro ac hc n r h;simp only[comp,aD]at hc;subst hc;simp only[jG]at h;cases hb:(Nat.beq (2*l+1) n&&Nat.beq (n % 2) 1)<;>rw[hb]at h
  ·cases h
  simp only[bW]at hb;cases h;exact⟨l,.skip,(bH hb.1).symm,by simp[findLabel],rfl⟩
 | seq p q Gb Ga=>
  intro ac hc n r h;simp only[comp,aC,aB,aD]at hc;obtain⟨p',hp,q',hq,rfl⟩:=hc;simp only[jG]at h;split at h
  ·rename_i r' Bk;cases h;obtain⟨l,rest,h1,h2,h3⟩:=Gb hp Bk;exact⟨l,.seq rest q,h1,by simp[findLabel,h2],by grind [comp]⟩
  ·rename_i hn;obtain⟨l,rest,h1,h2,h3⟩:=Ga hq h;refine⟨l,rest,h1,?_,h3⟩;have:findLabel p l=none:=by
    cases hf:findLabel p l with
    | none=>rfl
    | some z=>exact absurd (h1▸hn) (lab_of p hp hf).2
   grind [findLabel]
 | block id p ih=>
  intro ac hc n r h;simp only[comp,aC,aB,aD]at hc;obtain⟨p',hp,rfl⟩:=hc;cases p'<;>simp only[jG,reduceCtorEq]at h
  grind [Nat.beq,id,bH]
 | skip=>grind [comp,aD,jG,reduceCtorEq]
 | exit id=>grind [comp,aD,jG,reduceCtorEq]
 | goto l=>grind [comp,aD,jG,reduceCtorEq]
 | ret=>grind [comp,aD,jG,reduceCtorEq]
 | refuse s=>grind [comp]
 | loop p ih=>
  grind [comp,aC,aB,aD,jG,reduceCtorEq]
 | scope p ih=>
  grind [comp,aC,aB,aD,jG,reduceCtorEq]
 | cond c p q Gb Ga=>
  grind [comp,aC,aB,aD,jG,reduceCtorEq]
 | region id ops draw=>
  intro ac hc n r h;simp only[comp,aC,aB]at hc;obtain⟨l,hl,hc⟩:=hc;cases draw with
  | false=>
   grind [aD,jG,reduceCtorEq]
  | true=>
   simp only[bG]at hc;cases Av:(nS ops.size (ancs ops.toList []) l (uZ (ancs ops.toList []) (l.map fun o=>o.op.kd)) 0 [] []&&Nat.ble ops.size (uZ (ancs ops.toList []) (l.map fun o=>o.op.kd)).length)<;>rw[Av]at hc
   all_goals grind [aD,jG,reduceCtorEq]
 | rangeFunc f ps p q Gb Ga=>
  intro ac hc n r h;simp only[comp,aC,aB]at hc
  grind [Nat.blt,aD,jG,reduceCtorEq]
def CD(E:Env)(cx:Cx)(cl:CL)(M0:Nat→Prop)(w0:World)(N:Nat)(cs:List Frame)(c:Code):Prop:=
 ∀{ac:AC},comp E.P N c=some ac→∀{fuel:Nat} {μ:Mu} {a:Act} {w:World} {x:AS} {b:Frame} {k:List Item} {zR:Out} {y:AS},Rel E M0 w0 N μ a w x→gR b x.r μ →
  zC ac cx cl fuel x = .ok zR y→Did E M0 w0 N μ w x (lone (fat b a (.code c::k)) cs w) b k cs zR y
theorem skip_did:CD E cx cl M0 w0 N cs .skip:=by
 intro ac hc fuel μ a w x b k zR y h Ai hs;simp only[comp,aD]at hc;subst hc;have hs':R.ok .normal x = .ok zR y:=hs;cases hs';exact⟨a,w,μ,.normal,h,Fr.refl _ _ _ _,rfl,rfl,.one fstep_skip⟩
theorem seq_did{p q:Code}(Gb:CD E cx cl M0 w0 N cs p)(Ga:CD E cx cl M0 w0 N cs q):CD E cx cl M0 w0 N cs (.seq p q):=by
 intro ac hc fuel μ a w x b k zR y h Ai hs;simp only[comp,aC,aB,aD]at hc;obtain⟨p',hp,q',hq,rfl⟩:=hc;have hs':zbind (zC p' cx cl fuel x) (zC q' cx cl fuel) = .ok zR y:=hs;refine Did.of_steps (.one fstep_seq) ?_
 exact Did.zbind (it:=.code q) (fun _=>rfl) hs' (fun o z hz=>Gb hp h Ai hz) (fun z a' w' μ' g1 g2 g3 hz=>Ga hq g1 (by rw[g3];exact Ai.mono g2) hz)
theorem lab_did{p rest:Code}{n l:Nat}(hn:n=2*l+1)(hf:findLabel p l=some rest){f:AS→R}{G:Out→Prop}
  (Vf:∀{μ:Mu} {a:Act} {w:World} {x:AS} {zR:Out} {y:AS},Rel E M0 w0 N μ a w x→gR b x.r μ→f x = .ok zR y →
   Did E M0 w0 N μ w x (lone (fat b a (.code rest :: .inScope p::k)) cs w) b (.inScope p::k) cs zR y∧G zR) :
  ∀(m:Nat) {r0:R} {μ:Mu} {w:World} {x:AS} {mch:Machine} {zR:Out} {y:AS},gR b x.r μ →
   (∀o z,r0 = .ok o z→Did E M0 w0 N μ w x mch b (.inScope p::k) cs o z∧G o)→zlab m n f r0 = .ok zR y →
   Did E M0 w0 N μ w x mch b (.inScope p::k) cs zR y∧zR≠.exit n∧G zR:=by
 intro m
 induction m with
 | zero=>
  intro r0 μ w x mch zR y Ai h0 hs;have hs':zlab_0 n f r0 = .ok zR y:=hs;unfold zlab_0 at hs';cases r0 with
  | no=>cases hs'
  | ok o z=>
   obtain⟨g1,g2⟩:=h0 o z rfl;cases o with
   | exit i=>
    simp only at hs';cases hb:Nat.beq i n<;>rw[hb]at hs'
    ·cases hs';exact⟨g1,fun e=>by simp_all,g2⟩
    ·cases hs'
   | normal=>grind
   | ret=>grind
   | pan c=>grind
 | succ m ih=>
  intro r0 μ w x mch zR y Ai h0 hs;have hs':zlab_s m (fun n f r=>zlab m n f r) n f r0 = .ok zR y:=hs
  unfold zlab_s at hs';cases r0 with
  | no=>cases hs'
  | ok o z=>
   obtain⟨g1,g2⟩:=h0 o z rfl;cases o with
   | exit i=>
    simp only at hs';cases hb:Nat.beq i n<;>rw[hb]at hs'
    ·cases hs';exact⟨g1,fun e=>by cases e;simp at hb,g2⟩
    ·have hi:=bH hb;subst hi;simp only[bG]at hs';obtain⟨a1,w1,μ1,ou1,r1,f1,e1,o1,n1⟩:=g1;cases o1;obtain⟨todo,t1,t2⟩:=n1;have hj:iE i todo=some (.code rest :: .inScope p::k):=by
      rw[t1,hn,jumpTo_odd];simp[gotoIn,hf]
     have Vd:gR b z.r μ1:=by rw[e1];exact Ai.mono f1.mu
     obtain⟨q1,q2,q3⟩:=ih (w:=w1) (x:=z) (mch:=lone (fat b a1 (.code rest :: .inScope p::k)) cs w1) Vd (fun o z' hz=>Vf r1 Vd hz) hs'
     refine⟨?_,q2,q3⟩;obtain⟨a2,w2,μ2,ou2,r2,f2,e2,o2,n2⟩:=q1;exact⟨a2,w2,μ2,ou2,r2,f1.trans f2,e2.trans e1,o2,n2.of_steps (fW t2 (.one (wE hj)))⟩
   | normal=>grind
   | ret=>grind
   | pan c=>grind
theorem wrap_did{p:Code}{p':AC}(hp:comp E.P N p=some p')(hQ:∀l rest,findLabel p l=some rest→CD E cx cl M0 w0 N cs rest):∀(ns:List Nat) {c':Code} {x':AC},comp E.P N c'=some x'→CD E cx cl M0 w0 N cs c' →
  ∀{fuel:Nat} {μ:Mu} {a:Act} {w:World} {x:AS} {b:Frame} {k:List Item} {zR:Out} {y:AS},Rel E M0 w0 N μ a w x→gR b x.r μ→zC (lX p' ns x') cx cl fuel x = .ok zR y →
   Did E M0 w0 N μ w x (lone (fat b a (.code c' :: .inScope p::k)) cs w) b (.inScope p::k) cs zR y∧∀n∈ns,zR≠.exit n
 | [],c',x',hc,Wh,fuel,μ,a,w,x,b,k,zR,y,h,Ai,hs=>⟨Wh hc h Ai hs,fun n hn=>by cases hn⟩
 | n::ns,c',x',hc,Wh,fuel,μ,a,w,x,b,k,zR,y,h,Ai,hs=>by
  unfold lX at hs;cases hr:jG p' n with
  | none=>grind [stuck_no]
  | some r=>
   rw[hr]at hs;obtain⟨l,rest,hn,hf,Hc⟩:=rest_of p hp hr;have hs':zlab fuel n (zC (lX p' ns r) cx cl fuel) (zC (lX p' ns x') cx cl fuel x) = .ok zR y:=hs;obtain⟨q1,q2,q3⟩:=lab_did (G:=fun o=>∀n∈ns,o≠.exit n) hn hf (fun h Ai hz=>wrap_did hp hQ ns Hc (hQ l rest hf) h Ai hz) fuel (mch:=lone (fat b a (.code c' :: .inScope p::k)) cs w) Ai
    (fun o z hz=>wrap_did hp hQ ns hc Wh h Ai hz) hs'
   grind
theorem scope_did{p:Code}(Wh:CD E cx cl M0 w0 N cs p)(hQ:∀l rest,findLabel p l=some rest→CD E cx cl M0 w0 N cs rest):CD E cx cl M0 w0 N cs (.scope p):=by
 intro ac hc fuel μ a w x b k zR y h Ai hs;simp only[comp,aC,aB,aD]at hc;obtain⟨p',hp,rfl⟩:=hc;have hs':zC (lX p' (oU p') p') cx cl fuel x = .ok zR y:=hs;refine Did.of_steps (.one tX) ?_;obtain⟨hD,An⟩:=wrap_did hp hQ (oU p') hp Wh (k:=k) h Ai hs';by_cases ho:zR = .normal
 ·subst ho;refine hD.bind fun a' w' μ' g1 g2 g3=>?_
  exact⟨a',w',μ',.normal,g1,Fr.refl _ _ _ _,rfl,rfl,.one qA⟩
 ·cases zR with
  | exit i=>
   obtain⟨a1,w1,μ1,ou1,r1,f1,e1,o1,n1⟩:=hD;cases o1;obtain⟨todo,t1,t2⟩:=n1;refine⟨a1,w1,μ1,.exit i,r1,f1,e1,rfl,todo,t1.trans (rL (fun l hl=>?_) k),t2⟩
   cases hf:findLabel p l with
   | none=>rfl
   | some z=>grind [absurd,lab_of]
  | normal=>grind
  | ret=>
   obtain⟨a1,w1,μ1,ou1,r1,f1,e1,o1,n1⟩:=hD;cases o1;exact⟨a1,w1,μ1,.ret,r1,f1,e1,rfl,n1⟩
  | pan c=>
   obtain⟨a1,w1,μ1,ou1,r1,f1,e1,o1,n1⟩:=hD;obtain⟨ch,rfl,hc⟩:=o1;exact⟨a1,w1,μ1,.pan ch,r1,f1,e1,⟨ch,rfl,hc⟩,n1⟩
theorem code_did2(H:Ctx E cx cl):∀(c:Code),CD E cx cl M0 w0 N cs c∧∀l rest,findLabel c l=some rest→CD E cx cl M0 w0 N cs rest:=by
 intro c
 induction c with
 | skip=>grind [skip_did,findLabel]
 | label l=>
  refine⟨?_,fun l' rest h=>?_⟩
  ·intro ac hc fuel μ a w x b k zR y h Ai hs;simp only[comp,aD]at hc;subst hc;have hs':R.ok .normal x = .ok zR y:=hs;cases hs';exact⟨a,w,μ,.normal,h,Fr.refl _ _ _ _,rfl,rfl,.one fstep_label⟩
  grind [findLabel,skip_did]
 | seq p q Gb Ga=>
  grind [seq_did,findLabel]
 | scope p ih=>grind [scope_did,findLabel]
 | region id ops draw=>
  refine⟨?_,fun l rest h=>by simp[findLabel]at h⟩
  intro ac hc fuel μ a w x b k zR y h Ai hs;simp only[comp,aC,aB]at hc;obtain⟨l,hl,hc⟩:=hc;cases draw with
  | false=>
   simp only[cO,aD]at hc;subst hc;exact region_did H.call H.meth H.glob h Ai hl hs
  | true=>
   grind [nS,ancs,uZ,Nat.ble,aD,region_any]
 | cond c p q Gb Ga=>
  obtain⟨Gb,_⟩:=Gb;obtain⟨Ga,_⟩:=Ga;refine⟨?_,fun l rest h=>by simp[findLabel]at h⟩
  intro ac hc fuel μ a w x b k zR y h Ai hs;simp only[comp,aC,aB,aD]at hc;obtain⟨c',Jb,rfl⟩:=hc;have hs':wZ c' (nT (comp E.P N p)) (nT (comp E.P N q)) (zC (nT (comp E.P N p))) (zC (nT (comp E.P N q))) cx cl fuel x = .ok zR y:=hs;unfold wZ at hs';have hv:=cW h Jb;rw[H.glob]at hs';split at hs'
  ·rename_i r he;rw[he]at hv;simp only[aY]at hv;refine Did.of_steps (.one (wF hv)) ?_;cases r with
   | true=>
    have Az:zC (nT (comp E.P N p)) cx cl fuel x = .ok zR y:=hs';cases hp:comp E.P N p with
    | none=>rw[hp]at Az;cases(stuck_no cx cl fuel x).symm.trans Az
    | some p'=>rw[hp]at Az;exact Gb hp h Ai Az
   | false=>
    have Az:zC (nT (comp E.P N q)) cx cl fuel x = .ok zR y:=hs';cases hq:comp E.P N q with
    | none=>rw[hq]at Az;cases(stuck_no cx cl fuel x).symm.trans Az
    | some q'=>rw[hq]at Az;exact Ga hq h Ai Az
  ·cases hs'
 | block id p ih=>
  obtain⟨ih,_⟩:=ih;refine⟨?_,fun l rest h=>by simp[findLabel]at h⟩
  intro ac hc fuel μ a w x b k zR y h Ai hs;simp only[comp,aC,aB,aD]at hc;obtain⟨p',hp,rfl⟩:=hc;exact block_did (r:=zC p' cx cl fuel x) hs fun o z hz=>ih hp h Ai hz
 | loop p ih=>
  obtain⟨ih,_⟩:=ih;refine⟨?_,fun l rest h=>by simp[findLabel]at h⟩
  intro ac hc fuel μ a w x b k zR y h Ai hs;simp only[comp,aC,aB,aD]at hc;obtain⟨p',hp,rfl⟩:=hc;have hs':zloop fuel (zC p' cx cl fuel) x = .ok zR y:=hs;exact Did.of_steps (.one fstep_loop) (loop_did fuel (fun h Ai hz=>ih hp h Ai hz) h Ai hs')
 | exit id=>
  refine⟨?_,fun l rest h=>by simp[findLabel]at h⟩
  intro ac hc fuel μ a w x b k zR y h Ai hs;simp only[comp,aD]at hc;subst hc;have hs':R.ok (.exit (2*id)) x = .ok zR y:=hs;cases hs';exact⟨a,w,μ,.exit (2*id),h,Fr.refl _ _ _ _,rfl,rfl,k,rfl,by rw[jumpC_even];exact .refl _ _⟩
 | goto l=>
  refine⟨?_,fun l rest h=>by simp[findLabel]at h⟩
  intro ac hc fuel μ a w x b k zR y h Ai hs;simp only[comp,aD]at hc;subst hc;have hs':R.ok (.exit (2*l+1)) x = .ok zR y:=hs;cases hs';exact⟨a,w,μ,.exit (2*l+1),h,Fr.refl _ _ _ _,rfl,rfl,k,rfl,by rw[jumpC_odd];exact .refl _ _⟩
 | ret=>
  refine⟨?_,fun l rest h=>by simp[findLabel]at h⟩
  intro ac hc fuel μ a w x b k zR y h Ai hs;simp only[comp,aD]at hc;subst hc;have hs':R.ok .ret x = .ok zR y:=hs;cases hs';exact⟨a,w,μ,.ret,h,Fr.refl _ _ _ _,rfl,rfl,k,.refl _ _⟩
 | rangeFunc f ps p q Gb Ga=>
  refine⟨?_,fun l rest h=>by simp[findLabel]at h⟩
  intro ac hc fuel μ a w x b k zR y h Ai hs;simp only[comp,aC,aB]at hc
  grind [Nat.blt,aD,range_did]
 | refuse s=>exact⟨fun hc=>by simp[comp]at hc,fun l rest h=>by simp[findLabel]at h⟩
theorem qK(H:Ctx E cx cl):∀(c:Code) {ac:AC},comp E.P N c=some ac→∀{fuel:Nat} {μ:Mu} {a:Act} {w:World} {x:AS} {b:Frame} {k:List Item} {zR:Out} {y:AS},Rel E M0 w0 N μ a w x→gR b x.r μ →
  zC ac cx cl fuel x = .ok zR y→Did E M0 w0 N μ w x (lone (fat b a (.code c::k)) cs w) b k cs zR y:=
 fun c _ hc _ _ _ _ _ _ _ _ _ h Ai hs=>(code_did2 H c).1 hc h Ai hs
end
theorem trget_nd'{α:Type}(a b:Tr α)(n:Nat):(Tr.nd a b).get n=if n % 2=0 then a.get (n / 2) else b.get (n / 2):=by
 show(Nat.rec (a.get (n / 2)) (fun _ _=>b.get (n / 2)) (n % 2):Option α)=_
 rcases Nat.mod_two_eq_zero_or_one n with h|h<;>rw[h]<;>rfl
theorem tget_tm0(n:Nat):tget tm0 n = .un:=by
 have hl:∀n,(Tr.ls []:Tm).get n=none:=fun n=>rfl
 have hn:∀(a b:Tm),(∀n,a.get n=none)→(∀n,b.get n=none)→∀n,(Tr.nd a b).get n=none:=fun a b ha hb n=>by
  grind [trget_nd']
 have h1:=hn _ _ hl hl;have h2:=hn _ _ h1 h1;have h3:=hn _ _ h2 h2;have h4:=hn _ _ h3 h3;have h5:=hn _ _ h4 h4;have:tm0.get n=none:=by
  first
   | exact h5 n
   | exact h4 n
   | exact h3 n
 show undD (tm0.get n) = .un;rw[this];rfl
theorem tget_argTm:∀(k:Nat) (args:List D) (t:Tm) (n:Nat),tget (iW k args t) n=if k≤n∧n-k<args.length then(args[n-k]?).getD .un else tget t n
 | k,[],t,n=>by simp[iW]
 | k,d::r,t,n=>by
  simp only[iW,tget_argTm (k+1) r (tput t k d) n,nB]
  grind
section
variable {E:Env} {M0:Nat→Prop} {w0:World} {N:Nat} {μ:Mu} {M:Nat→Prop} {a:Act} {w:World} {x:AS}
theorem start_rel{s:St}{c:Nat}(h:lW E M0 w0 μ w s c){args:List D}{vals:List Value}(hv:bI (Mm M0 μ) w μ args vals):
  Rel E M0 w0 N μ { tmps:=vals.toArray++Array.replicate (N-vals.toArray.size) undef,defers:=[] } w (start args s c):=by
 refine h.frame (by simp;omega) (fun n=>?_) (by simp only[iR])
 rw[tget_argTm,tget_tm0];by_cases hn:0≤n∧n-0<args.length
 ·rw[aS hn];have zQ:n<args.length:=by omega
  have ha:args[n]?=some args[n]:=aI zQ;obtain⟨v,h1,h2⟩:=hv.get n _ ha;have hlv:n<vals.length:=(dE.1 h1).1;have:(vals.toArray++Array.replicate (N-vals.toArray.size) undef).getD n undef=v:=by
   rw[gV,Array.getElem?_append_left (by simpa using hlv)]
   simp[h1]
  show aY (Mm M0 μ) w μ _ ((vals.toArray++Array.replicate (N-vals.toArray.size) undef).getD n undef);rw[this,Nat.sub_zero,ha];exact h2
 ·rw[aG hn];simp only[aY]
theorem rv_run(h:Rel E M0 w0 N μ a w x){r:ResultVar}{rv:RV}{d:D}(hc:pP E.P r=some rv)(hg:RV.get x rv=some d):
  ∃v,(match r with | .tmp t=>pure (a.tmps.getD t undef) | .cell p t=>do loadVar t (←asAddr (a.tmps.getD p undef)):Sem Value).run E.P w = .ok v w∧aY (Mm M0 μ) w μ d v:=by
 cases r with
 | tmp t=>
  simp only[pP,aD]at hc;subst hc;simp only[RV.get,aD]at hg;subst hg;exact⟨_,bV _ _ _,h.tm t⟩
 | cell p t=>
  simp only[pP,aC,aB,aD]at hc;obtain⟨sz,Ae,rfl⟩:=hc;simp only[RV.get,aC,aB]at hg;obtain⟨⟨cs,off⟩,h1,h2⟩:=hg;obtain⟨b,o,Lw,Dc⟩:=seen_rel h h1 (h.tm p);obtain⟨v,zV,hr⟩:=rX (P:=E.P) Ae h2 Dc
  grind [asAddr]
theorem vQ{α:Type}{P:Program}{f:α→Sem Value}{R:Nat→Value→Prop}{w:World}:∀(l:List α) (k:Nat),(∀i r,l[i]?=some r→∃v,(f r).run P w = .ok v w∧R (k+i) v) →
  ∃vs,(l.mapM f).run P w = .ok vs w∧vs.length=l.length∧∀i v,vs[i]?=some v→R (k+i) v
 | [],k,_=>⟨[],by simp,rfl,fun i v h=>by simp at h⟩
 | r::l,k,h=>by
  obtain⟨v,h1,h2⟩:=h 0 r rfl;obtain⟨vs,h3,h4,h5⟩:=vQ l (k+1) fun i r' hi=>by
   have:=h (i+1) r' (by simpa using hi)
   rwa [show k+(i+1)=k+1+i by omega]at this
  refine⟨v::vs,by simp_all,by simp[h4],fun i u hi=>?_⟩
  grind
theorem results_run(h:Rel E M0 w0 N μ a w x){fn:Func}{A:AF}(hc:fn.results.toList.mapM (pP E.P)=some A.res){ds:List D}(hg:A.res.mapM (RV.get x)=some ds):
  ∃v,(Go.results fn a.tmps).run E.P w = .ok v w∧aY (Mm M0 μ) w μ (retD ds) v:=by
 obtain⟨l1,l2⟩:=mP hc;obtain⟨l3,l4⟩:=mP hg;obtain⟨vs,h1,h2,h3⟩:=vQ (P:=E.P) (w:=w) (R:=fun i v=>∃d,ds[i]?=some d∧aY (Mm M0 μ) w μ d v)
  (f:=fun r=>(match r with | .tmp t=>pure (a.tmps.getD t undef) | .cell p t=>do loadVar t (←asAddr (a.tmps.getD p undef)):Sem Value)) fn.results.toList 0 (fun i r hr=>by
   have hi:i<A.res.length:=by have:=(dE.1 hr).1;omega
   have e1:A.res[i]?=some A.res[i]:=aI hi;have Bs:i<ds.length:=by omega
   have e2:ds[i]?=some ds[i]:=aI Bs
   grind [rv_run])
 have zV:(fn.results.mapM (fun r=>(match r with | .tmp t=>pure (a.tmps.getD t undef) | .cell p t=>do loadVar t (←asAddr (a.tmps.getD p undef)):Sem Value))).run E.P w = .ok vs.toArray w:=by
  rw[Array.mapM_eq_mapM_toList];simp at h1 ⊢;rw[h1];rfl
 have zU:vs.length=ds.length:=by omega
 have Mb:bI (Mm M0 μ) w μ ds vs:=bI.mk zU fun i d v hd hv=>by
  grind
 refine⟨if h:vs.toArray.size=1 then vs.toArray[0]else .tuple vs.toArray,?_,?_⟩
 ·unfold Go.results;rw[bJ];exact congrArg (fun r=>Result.andThen r fun a w'=>Sem.run E.P (pure (if h:a.size=1 then a[0]else Value.tuple a)) w') zV
 ·match ds,vs,Mb with
  | [],vs,hr=>simp only[bI]at hr;subst hr;simp only[retD,aY];exact⟨_,rfl,by simp only[bI]⟩
  | [d],vs,hr=>
   simp only[bI]at hr;obtain⟨v,_,rfl,hv,rfl⟩:=hr;simpa[retD]using hv
  | d::e::r,vs,hr=>
   have An:vs.toArray.size≠1:=by have:=hr.length;simp at this ⊢;omega
   grind [retD,aY]
theorem results_ok(h:Rel E M0 w0 N μ a w x){fn:Func}{A:AF}(hc:fn.results.toList.mapM (pP E.P)=some A.res){d:D}(hr:results A x=some d):
  ∃v,(Go.results fn a.tmps).run E.P w = .ok v w∧aY (Mm M0 μ) w μ d v:=by
 grind [results,aT,results_run]
end
variable {M:Nat→Prop} {w:World} {m:eU} {u:FrameMode}
def nQ(M:Nat→Prop)(w:World)(μ:Mu):eU→FrameMode→Prop
 | none,u=>u = .returning
 | some c,u=>∃ch,u = .panicking ch∧jC M w μ c ch
theorem nQ.mono{M':Nat→Prop}{w':World}{μ μ':Mu}(hx:Ext M w M' w')(hm:gJ μ μ')(h:nQ M w μ m u):nQ M' w' μ' m u:=by
 cases m with
 | none=>exact h
 | some c=>obtain⟨ch,h1,h2⟩:=h;exact⟨ch,h1,jC.mono hx hm h2⟩
theorem nQ.notRun{μ:Mu}(h:nQ M w μ m u):u≠.run:=by
 cases m with
 | none=>rw[show u = .returning from h];intro e;cases e
 | some c=>obtain⟨ch,rfl,_⟩:=h;grind
theorem jC.noexit{M:Nat→Prop}{w:World}{μ:Mu}:∀{c:Ch} {l:List PanicEntry},jC M w μ c l→∀p∈l,p.goexit=false
 | [],_,h,p,hp=>by grind [jC]
 | (d,r)::c,_,h,p,hp=>by
  simp only[jC]at h;obtain⟨v,l',rfl,h1,h2⟩:=h;rcases cH.1 hp with rfl|hp
  ·rfl
  ·exact jC.noexit h2 p hp
theorem nQ.settle{μ:Mu}(h:nQ M w μ m u):nQ M w μ (settle m) (Go.settle u):=by
 cases m with
 | none=>rw[show u = .returning from h];exact rfl
 | some c=>
  obtain⟨ch,rfl,hc⟩:=h;cases c with
  | nil=>simp only[jC]at hc;subst hc;exact⟨[],rfl,by simp only[jC]⟩
  | cons p c=>
   obtain⟨d,r⟩:=p;have Bw:=hc;simp only[jC]at hc;obtain⟨v,l',rfl,h1,h2⟩:=hc;cases r with
   | false=>exact⟨_,rfl,Bw⟩
   | true=>
    have Dl:=jC.noexit h2;have hd:l'.dropWhile (fun p=>!p.goexit)=[]:=by
     clear h2 Bw
     induction l' with
     | nil=>rfl
     | cons q r ih=>
      simp_all
    show Go.settle (.panicking _) = .returning
    grind [Go.settle]
theorem jC.append{M:Nat→Prop}{w:World}{μ:Mu}:∀{c c':Ch} {l l':List PanicEntry},jC M w μ c l→jC M w μ c' l'→jC M w μ (c++c') (l++l')
 | [],_,_,_,h,h'=>by grind [jC]
 | (d,r)::c,_,_,_,h,h'=>by
  simp only[jC,cA]at h ⊢;obtain⟨v,l1,rfl,h1,h2⟩:=h;exact⟨v,l1++_,rfl,h1,jC.append h2 h'⟩
theorem nQ.raised{μ:Mu}{ch:Ch}{Aj:List PanicEntry}(h:nQ M w μ m u)(hc:jC M w μ ch Aj):nQ M w μ (raised m ch) (Go.raised u Aj):=by
 cases m with
 | none=>rw[show u = .returning from h];exact⟨Aj,rfl,hc⟩
 | some c=>obtain⟨old,rfl,ho⟩:=h;exact⟨_,rfl,hc.append ho⟩
section
variable {E:Env} {cx:Cx} {cl:CL} {M0:Nat→Prop} {w0:World} {N:Nat} {μ:Mu} {M:Nat→Prop} {a:Act} {w:World} {x:AS} {b:Frame} {k:List Item} {cs:List Frame}
variable {m:Machine} {c0:Frame} {zR:Out} {md:eU}
def pA(E:Env)(M0:Nat→Prop)(w0:World)(N:Nat)(μ:Mu)(w:World)(x:AS)(m:Machine)(b:Frame)(k:List Item)(c0:Frame)(cs:List Frame)(zR:Out)(y:AS)(md:eU):Prop:=
 ∃a' w' μ' ou u',Rel E M0 w0 N μ' a' w' y∧Fr x.c x.s μ w y.c y.s μ' w'∧y.r=x.r∧OuRel (Mm M0 μ') w' μ' zR ou∧nQ (Mm M0 μ') w' μ' md u'∧Ends E.P m b k ({ c0 with mode:=u' }::cs) ou a' w'
theorem Did.toS{y:AS}(h0:Rel E M0 w0 N μ a w x)(h:Did E M0 w0 N μ w x m b k (c0::cs) zR y)(hm:nQ (Mm M0 μ) w μ md c0.mode):pA E M0 w0 N μ w x m b k c0 cs zR y md:=by
 obtain⟨a',w',μ',ou,h1,h2,h3,h4,h5⟩:=h;exact⟨a',w',μ',ou,c0.mode,h1,h2,h3,h4,hm.mono h2.ext h2.mu,h5⟩
theorem pA.of_steps{m1:Machine}{y:AS}(h:Steps E.P m m1)(h':pA E M0 w0 N μ w x m1 b k c0 cs zR y md):pA E M0 w0 N μ w x m b k c0 cs zR y md:=by
 obtain⟨a',w',μ',ou,u',h1,h2,h3,h4,h5,h6⟩:=h';exact⟨a',w',μ',ou,u',h1,h2,h3,h4,h5,h6.of_steps h⟩
theorem pA.bind{k1:List Item}{y z:AS}{Tk:eU}(h1:pA E M0 w0 N μ w x m b k1 c0 cs .normal z Tk) 
  (h2:∀a' w' μ' u',Rel E M0 w0 N μ' a' w' z→gJ μ μ'→z.r=x.r→nQ (Mm M0 μ') w' μ' Tk u'→pA E M0 w0 N μ' w' z (lone (fat b a' k1) ({ c0 with mode:=u' }::cs) w') b k { c0 with mode:=u' } cs zR y md) :
  pA E M0 w0 N μ w x m b k c0 cs zR y md:=by
 obtain⟨a1,w1,μ1,ou1,u1,r1,f1,e1,o1,m1,n1⟩:=h1;cases o1;obtain⟨a2,w2,μ2,ou2,u2,r2,f2,e2,o2,m2,n2⟩:=h2 a1 w1 μ1 u1 r1 f1.mu e1 m1;exact⟨a2,w2,μ2,ou2,u2,r2,f1.trans f2,e2.trans e1,o2,m2,n2.of_steps n1⟩
theorem pA.pass{it:Item}{y:AS}(hx:∀id,iE id (it::k)=iE id k)(hn:zR≠.normal)(h:pA E M0 w0 N μ w x m b (it::k) c0 cs zR y md):
  pA E M0 w0 N μ w x m b k c0 cs zR y md:=by
 obtain⟨a1,w1,μ1,ou1,u1,r1,f1,e1,o1,m1,n1⟩:=h;exact⟨a1,w1,μ1,ou1,u1,r1,f1,e1,o1,m1,n1.pass hx (o1.normal_iff hn)⟩
theorem run_recover{P:Program}{ρ:Operand→Value}{o:Oper}{c:Call}(ho:o.op = .call c)(hc:c.callee = .builtin .recover)(w:World):(execOp ρ o).run P w = .ok .recover w:=by
 simp only[execOp,ho,resolve,hc,bJ,bV,aR,invoke,builtin]
theorem opsS_did(H:Ctx E cx cl)(hk:b.kind = .deferred)(Ai:b.roundOf=none){ops:Array Oper}:
  ∀{l:List Oper} {Ic:List Nat} {az:List cR} {μ:Mu} {a:Act} {w:World} {x:AS} {md:eU} {c0:Frame},Rel E M0 w0 N μ a w x→x.r=none→nQ (Mm M0 μ) w μ md c0.mode→Ic.map (ops[·]?)=l.map some→lZ E.P N ops l=some az →
   ∀{zR:Out} {y:AS} {Dw:eU},jR cx cl az x md = .ok zR y Dw→pA E M0 w0 N μ w x (lone (fat b a (.inRegion ops Ic::k)) (c0::cs) w) b k c0 cs zR y Dw:=by
 intro l
 induction l with
 | nil=>
  intro Ic az μ a w x md c0 h hr hm hi hc zR y Dw hs;simp only[dU,List.map_eq_nil_iff]at hi;subst hi;simp only[lZ,aD]at hc;subst hc;simp only[jR,RS.ok.injEq]at hs;obtain⟨rfl,rfl,rfl⟩:=hs;exact⟨a,w,μ,.normal,c0.mode,h,Fr.refl _ _ _ _,rfl,rfl,hm,.one lI⟩
 | cons o l ih=>
  intro Ic az μ a w x md c0 h hr hm hi hc zR y Dw hs;cases Ic with
  | nil=>cases hi
  | cons i rest=>
   simp only[bS,List.cons.injEq]at hi;obtain⟨Iy,hi⟩:=hi;simp only[lZ,aC,aB,aD]at hc;obtain⟨ao,Dh,r,Hc,rfl⟩:=hc;obtain⟨Ex,hdst,Gx,hd⟩:=nJ Dh
   have Hh:∀(Ze:Frame) (Tk:eU) (d:D) (v:Value) (m:Machine) (m1:eU) (zR:Out) (y:AS),aY (Mm M0 μ) w μ d v→nQ (Mm M0 μ) w μ Tk Ze.mode→(∃u,Ze={ c0 with mode:=u }) →
     Steps E.P m (lone (fat b (a.put o.dst v) (.inRegion ops rest::k)) (Ze::cs) w)→jR cx cl r (x.put ao.dst d) Tk = .ok zR y m1→pA E M0 w0 N μ w x m b k c0 cs zR y m1:=by
    rintro Ze Tk d v m m1 zR y hv Mj ⟨u,rfl⟩ zZ hz;have Bp:Rel E M0 w0 N μ (a.put o.dst v) w (x.put ao.dst d):=by rw[hdst];exact h.put hd hv
    obtain⟨a',w',μ',ou,u',h1,h2,h3,h4,h5,h6⟩:=ih Bp (by grind [put_r]) Mj hi Hc hz
    exact⟨a',w',μ',ou,u',h1,by revert h2;cases ao.dst<;>exact id,h3.trans (put_r x _ _).1,h4,h5,h6.of_steps zZ⟩
   simp only[jR]at hs;cases Ns:wanted ao x with
   | none=>grind
   | some c=>
    have hw:=kC h Gx Ns;rw[Ns]at hs;cases c with
    | false=>
     simp only at hs;have zZ:=lT (P:=E.P) (b:=b) (a:=a) (k:=k) (cs:=c0::cs) (w:=w) (ops:=ops) (i:=i) (rest:=rest) (by simp[Iy,hw])
     simp only[Iy,bE]at zZ;exact Hh c0 md (.tup []) undef _ _ _ _ (by simp only[aY];exact⟨#[],rfl,rfl⟩) hm ⟨c0.mode,rfl⟩ (.one zZ) hs
    | true=>
     simp only at hs;have hg:=mE (P:=E.P) (b:=b) (a:=a) (k:=k) (cs:=c0::cs) (w:=w) (rest:=rest) Iy hw (.inl Ai);have Db:∀v,(fat b a (.inRegion ops (i::rest)::k)).finish v=fat b (a.put o.dst v) (.inRegion ops rest::k):=fun v=>by
      grind [nH]
     by_cases Vh:ao.op = .rcv
     · -- recover
      rw[Vh]at hs Ex;simp only at hs;have Ig:∃c,o.op = .call c∧c.callee = .builtin .recover:=by
       rcases cOp_kind Ex with⟨hdt,_⟩|⟨_,_,_,_,_,_,e⟩|⟨_,_,_,_,_,_,_,_,e⟩|⟨_,_,_,_,_,_,_,_,_,e⟩|⟨_,_,_,_,e⟩|⟨_,_,_,_,_,_,_,_,e⟩|⟨c,h1,h2,_⟩
       ·exact hdt.elim
       all_goals first
        | cases e
        | exact⟨c,h1,h2⟩
      obtain⟨c,hoc,Js⟩:=Ig;have zV:=run_recover (P:=E.P) (ρ:=a.eval) hoc Js w;have Wo:=apply_recover (P:=E.P) (fr:=fat b a (.inRegion ops (i::rest)::k)) (cs:=c0::cs) zV Ai;rw[tryRecover_deferred (show(fat b a (.inRegion ops (i::rest)::k)).kind = .deferred from hk)]at Wo
      have Lp:recoverD (c0::cs)=none→jR cx cl r (x.put ao.dst .nilif) md = .ok zR y Dw→pA E M0 w0 N μ w x (lone (fat b a (.inRegion ops (i::rest)::k)) (c0::cs) w) b k c0 cs zR y Dw:=fun hn hz=>by
       rw[hn]at Wo;exact Hh c0 md .nilif .nilIface _ _ _ _ (by simp only[aY]) hm ⟨c0.mode,rfl⟩ (.one (dK (by grind))) hz
      cases md with
      | none=>
       simp only at hs;exact Lp (by simp[recoverD,show c0.mode = .returning from hm]) hs
      | some ch=>
       obtain⟨Aj,hmode,Iq⟩:=hm;cases ch with
       | nil=>
        grind [jC,recoverD]
       | cons p older=>
        obtain⟨d,rec⟩:=p;simp only[jC]at Iq;obtain⟨v,l',rfl,hv,Cv⟩:=Iq;cases rec with
        | true=>
         grind [recoverD]
        | false=>
         simp only at hs;have hrd:recoverD (c0::cs)=some (v,{ c0 with mode:=.panicking ({ v,recovered:=true }::l') }::cs):=by
          simp[recoverD,hmode]
         rw[hrd]at Wo;exact Hh { c0 with mode:=.panicking ({ v,recovered:=true }::l') } (some ((d,true)::older)) d v _ _ _ _ hv ⟨_,rfl,by grind [jC]⟩ ⟨_,rfl⟩
          (.one (dK (by grind))) hs
     · -- any Qa operation
      have hs':(match zOp cx cl ao x with
        | .ok .normal y=>jR cx cl r y md
        | .ok e y=>.ok e y md
        | .no=>.no) = .ok zR y Dw:=by
       revert hs;cases Me:ao.op<;>first
        | exact absurd Me Vh
        | exact id
      cases hz:zOp cx cl ao x with
      | no=>grind
      | ok o' z=>
       rw[hz]at hs';have hD:=(op_did (k:=k) (cs:=c0::cs) (rest:=rest) H.call H.meth H.glob h (by rw[hr];exact Ai) Dh Iy hw hz).toS h hm
       by_cases hn:o' = .normal
       ·subst hn;simp only at hs';exact hD.bind fun a' w' μ' u' g1 g2 g3 g4=>ih g1 (g3.trans hr) g4 hi Hc hs'
       ·have:RS.ok o' z md = .ok zR y Dw:=by
         cases o'<;>first|exact absurd rfl hn|exact hs'
        cases this;exact hD.pass (fun _=>rfl) hn
end
section
variable {E:Env} {cx:Cx} {cl:CL} {M0:Nat→Prop} {w0:World} {N:Nat} {μ:Mu} {M:Nat→Prop} {a:Act} {w:World} {x:AS} {b:Frame} {k:List Item} {cs:List Frame}
theorem back_code{r:R}{zR:Out}{y:AS}{md Dw:eU}(h:(match r with | .ok o y=>RS.ok o y md | .no=>.no) = .ok zR y Dw):r = .ok zR y∧Dw=md:=by
 grind
theorem blockS_did{c:Code}{id:Nat}{c0:Frame}{r:RS}{zR:Out}{y:AS}{Dw:eU}
  (hs:(match r with | .ok (.exit i) y m=>bif Nat.beq i (2*id) then RS.ok .normal y m else .ok (.exit i) y m|r=>r) = .ok zR y Dw)
  (Du:∀o z m,r = .ok o z m→pA E M0 w0 N μ w x (lone (fat b a (.code c :: .inBlock id::k)) (c0::cs) w) b (.inBlock id::k) c0 cs o z m) :
  pA E M0 w0 N μ w x (lone (fat b a (.code (.block id c)::k)) (c0::cs) w) b k c0 cs zR y Dw:=by
 refine pA.of_steps (.one fstep_block) ?_;cases r with
 | no=>cases hs
 | ok o z m=>
  obtain⟨a',w',μ',ou,u',r1,r2,r3,r4,r5,r6⟩:=Du o z m rfl;cases o with
  | normal=>
   cases hs;cases r4;exact⟨a',w',μ',.normal,u',r1,r2,r3,rfl,r5,fW r6 (.one vR)⟩
  | exit i=>
   cases r4;obtain⟨todo,t1,t2⟩:=r6;simp only at hs;cases hb:Nat.beq i (2*id)<;>rw[hb]at hs
   ·cases hs;have An:i≠2*id:=fun e=>by simp_all
    exact⟨a',w',μ',.exit i,u',r1,r2,r3,rfl,r5,todo,t1.trans (sA An k),t2⟩
   ·cases hs;have:=bH hb;subst this;exact⟨a',w',μ',.normal,u',r1,r2,r3,rfl,r5,fW t2 (.one (wE (t1.trans (yF id k))))⟩
  | ret=>
   cases hs;cases r4;exact⟨a',w',μ',.ret,u',r1,r2,r3,rfl,r5,r6⟩
  | pan c=>
   cases hs;obtain⟨ch,rfl,hc⟩:=r4;exact⟨a',w',μ',.pan ch,u',r1,r2,r3,⟨ch,rfl,hc⟩,r5,r6⟩
theorem stuck_noS(cx:Cx)(cl:CL)(fuel:Nat)(x:AS)(md:eU):zS cx cl fuel stuckC x md = .no:=by
 simp only[stuckC,zS];rfl
theorem codeS_did(H:Ctx E cx cl)(hk:b.kind = .deferred)(Ai:b.roundOf=none):∀(c:Code) {ac:AC},comp E.P N c=some ac→∀{fuel:Nat} {μ:Mu} {a:Act} {w:World} {x:AS} {md:eU} {c0:Frame} {k:List Item} {zR:Out} {y:AS} {Dw:eU},
  Rel E M0 w0 N μ a w x→x.r=none→nQ (Mm M0 μ) w μ md c0.mode→zS cx cl fuel ac x md = .ok zR y Dw→pA E M0 w0 N μ w x (lone (fat b a (.code c::k)) (c0::cs) w) b k c0 cs zR y Dw:=by
 intro c;have Tg:∀(c:Code) {ac:AC},comp E.P N c=some ac→∀{fuel:Nat} {μ:Mu} {a:Act} {w:World} {x:AS} {md:eU} {c0:Frame} {k:List Item} {zR:Out} {y:AS} {Dw:eU},
   Rel E M0 w0 N μ a w x→x.r=none→nQ (Mm M0 μ) w μ md c0.mode→(bif ac.noRcv then(match zC ac cx cl fuel x with | .ok o y=>RS.ok o y md | .no=>.no) else .no) = .ok zR y Dw →
   pA E M0 w0 N μ w x (lone (fat b a (.code c::k)) (c0::cs) w) b k c0 cs zR y Dw:=by
  intro c ac hc fuel μ a w x md c0 k zR y Dw h hr hm hs;cases hn:ac.noRcv<;>rw[hn]at hs
  ·cases hs
  ·obtain⟨h1,rfl⟩:=back_code hs;exact(qK H c hc h (by rw[hr];exact Ai) h1).toS h hm
 induction c with
 | region id ops draw=>
  intro ac hc fuel μ a w x md c0 k zR y Dw h hr hm hs;cases draw with
  | true=>
   have Bw:=hc;simp only[comp,aC,aB]at hc
   grind [nS,ancs,uZ,Nat.ble,aD,zS]
  | false=>
   simp only[comp,aC,aB]at hc;obtain⟨l,hl,hc⟩:=hc;simp only[cO,aD]at hc;subst hc;simp only[zS]at hs;refine pA.of_steps (.one rM) (opsS_did H hk Ai h hr hm ?_ hl hs);apply List.ext_getElem?
   grind
 | seq p q Gb Ga=>
  intro ac hc fuel μ a w x md c0 k zR y Dw h hr hm hs;simp only[comp,aC,aB,aD]at hc;obtain⟨p',hp,q',hq,rfl⟩:=hc;simp only[zS]at hs;refine pA.of_steps (.one fstep_seq) ?_;cases hz:zS cx cl fuel p' x md with
  | no=>grind
  | ok o z m=>
   rw[hz]at hs;have hD:=Gb hp (k:=.code q::k) h hr hm hz;by_cases hn:o = .normal
   ·subst hn;exact hD.bind fun a' w' μ' u' g1 g2 g3 g4=>Ga hq g1 (g3.trans hr) g4 hs
   ·have:RS.ok o z m = .ok zR y Dw:=by cases o<;>first|exact absurd rfl hn|exact hs
    cases this;exact hD.pass (fun _=>rfl) hn
 | cond c p q Gb Ga=>
  intro ac hc fuel μ a w x md c0 k zR y Dw h hr hm hs;simp only[comp,aC,aB,aD]at hc;obtain⟨c',Jb,rfl⟩:=hc;simp only[zS]at hs;have hv:=cW h Jb;rw[H.glob]at hs;split at hs
  ·rename_i r he;rw[he]at hv;simp only[aY]at hv;refine pA.of_steps (.one (wF hv)) ?_;cases r with
   | true=>
    have Az:zS cx cl fuel (nT (comp E.P N p)) x md = .ok zR y Dw:=hs;cases hp:comp E.P N p with
    | none=>rw[hp]at Az;cases(stuck_noS cx cl fuel x md).symm.trans Az
    | some p'=>rw[hp]at Az;exact Gb hp h hr hm Az
   | false=>
    have Az:zS cx cl fuel (nT (comp E.P N q)) x md = .ok zR y Dw:=hs;cases hq:comp E.P N q with
    | none=>rw[hq]at Az;cases(stuck_noS cx cl fuel x md).symm.trans Az
    | some q'=>rw[hq]at Az;exact Ga hq h hr hm Az
  ·cases hs
 | block id p ih=>
  intro ac hc fuel μ a w x md c0 k zR y Dw h hr hm hs;simp only[comp,aC,aB,aD]at hc;obtain⟨p',hp,rfl⟩:=hc;simp only[zS]at hs;exact blockS_did (r:=zS cx cl fuel p' x md) hs fun o z m hz=>ih hp h hr hm hz
 | scope p ih=>
  intro ac hc fuel μ a w x md c0 k zR y Dw h hr hm hs;have Bw:=hc;simp only[comp,aC,aB,aD]at hc;obtain⟨p',hp,rfl⟩:=hc;simp only[zS]at hs;cases hl:oU p' with
  | nil=>
   rw[hl]at hs;simp only[lX]at hs;refine pA.of_steps (.one tX) ?_;have hD:=ih hp (k:=.inScope p::k) h hr hm hs;by_cases ho:zR = .normal
   ·subst ho;refine hD.bind fun a' w' μ' u' g1 g2 g3 g4=>?_
    exact⟨a',w',μ',.normal,u',g1,Fr.refl _ _ _ _,rfl,rfl,g4,.one qA⟩
   ·refine hD.pass (fun i=>rL (fun l _=>?_) k) ho
    cases hf:findLabel p l with
    | none=>rfl
    | some z=>
     have:=(lab_of p hp hf).1;rw[hl]at this;cases this
  | cons n ns=>
   rw[hl]at hs Bw;cases Rv:jG p' n with
   | none=>
    grind [lX,stuck_noS]
   | some r=>
    simp only[lX,Rv]at hs Bw;simp only[zS]at hs;exact Tg _ Bw (fuel:=fuel) h hr hm hs
 | skip=>
  grind [comp,aD,zS]
 | label l=>
  intro ac hc fuel μ a w x md c0 k zR y Dw h hr hm hs;have Bw:=hc;simp only[comp,aD]at hc;subst hc;have h1:zC (.block (2*l+1) .skip) cx cl fuel x = .ok .normal x:=rfl;have h2:zS cx cl fuel (.block (2*l+1) .skip) x md = .ok .normal x md:=by
   simp only[zS];rfl
  rw[h2]at hs;cases hs;exact(qK H _ Bw h (by rw[hr];exact Ai) h1).toS h hm
 | loop p ih=>
  grind [comp,aC,aB,aD,zS]
 | exit id=>
  grind [comp,aD,zS]
 | ret=>
  grind [comp,aD,zS]
 | rangeFunc f ps p q Gb Ga=>
  intro ac hc fuel μ a w x md c0 k zR y Dw h hr hm hs;have Bw:=hc;simp only[comp,aC,aB]at hc
  grind [Nat.blt,aD,zS]
 | goto l=>
  grind [comp,aD,zS]
 | refuse s=>grind [comp]
end
def afterD(o:FO)(m:eU):eU:=match o with
 | .ret _=>settle m
 | .pan ch=>raised m ch
def DefOK(E:Env)(df:Nat→List D→eU→St→Nat→DR):Prop:=
 ∀{M0:Nat→Prop} {w0:World} {μ:Mu} {w:World} {s:St} {c f:Nat} {args:List D} {vals:List Value} {m:eU} {o:FO} {m':eU} {s':St} {c':Nat},
  lW E M0 w0 μ w s c→bI (Mm M0 μ) w μ args vals→df f args m s c = .ok o m' s' c'→callable E.P f=true ∧
  ∀(c0:Frame) (cs:List Frame),nQ (Mm M0 μ) w μ m c0.mode→∃w' μ' u',Steps E.P (lone (Frame.enter E.P f vals.toArray .deferred) (c0::cs) w) (lone { c0 with mode:=u' } cs w')∧lW E M0 w0 μ' w' s' c'∧Fr c s μ w c' s' μ' w' ∧
   nQ (Mm M0 μ') w' μ' (afterD o m') u'
structure TOK (E:Env) (cx:Cx):Prop where
 body:∀f A,cx.T f=some A→callable E.P f=true∧∃fn,E.P.funcs[f]?=some fn∧compF E.P fn=some A
theorem rS{P:Program}{fn:Func}{A:AF}(h:compF P fn=some A):∃c,fn.body=some c∧comp P fn.ntmps c=some A.body∧fn.results.toList.mapM (pP P)=some A.res:=by
 grind [compF,aC,aB,Nat.beq,aD]
section
variable {E:Env} {cx:Cx} {M0:Nat→Prop} {w0:World} {N:Nat} {μ:Mu} {M:Nat→Prop} {a:Act} {w:World} {x:AS} {cs:List Frame}
theorem Rel.kill(h:Rel E M0 w0 N μ a w x)(nm:Nat)(l:Loc)(b:Nat){w':World}(hl:μ nm=some l)(Be:l.blk=some b)(Bd:(sget x.s nm).isSome=true)
  (Ae:w'.heap.size=w.heap.size) (Bc:∀k,k≠b→w'.heap[k]?=w.heap[k]?) (he:vJ w w':=by exact⟨rfl,rfl⟩) :
  Ext (Mm M0 μ) w (Mm M0 μ) w'∧Rel E M0 w0 N μ a w' ⟨x.t,sdel x.s nm,x.c,x.d,x.r⟩∧Fr x.c x.s μ w x.c (sdel x.s nm) μ w':=by
 have hM:=h.isM hl Be;have hx:Ext (Mm M0 μ) w (Mm M0 μ) w':=⟨by omega,fun k _ hk=>Bc k fun e=>hk (e▸hM),fun _ _ hm=>hm⟩
 have hi:∀n bk,sget (sdel x.s nm) n=some bk→n≠nm∧sget x.s n=some bk:=fun n bk hn=>by
  grind [hU]
 refine⟨hx,{h with
  size:=by have:=h.size;omega
  old:=fun k hk=>by rw[Bc k fun e=>by have:=h.own nm l b hl Be;omega];exact h.old k hk
  env:=⟨he.1.trans h.env.1,he.2.trans h.env.2⟩
  defers:=iR.mono hx (gJ.refl _) h.defers
  tm:=fun n=>aY.mono hx _ _ (gJ.refl _) (h.tm n)
  own:=fun nm l b h1 h2=>by rw[Ae];exact h.own nm l b h1 h2
  lt:=h.lt
  inj:=fun n m l l' b s1 s2=>by
   obtain⟨b1,Cj⟩:=eP.1 s1;obtain⟨b2,Bb⟩:=eP.1 s2;exact h.inj n m l l' b (by grind) (by grind)
  st:=fun k bk lk Kr hk=>by
   obtain⟨Ht,hk⟩:=hi k bk hk;refine rV.mono hx (gJ.refl _) (fun l' b' Dx Im=>⟨Bc b' fun e=>?_,id⟩) (h.st k bk lk Kr hk)
   subst e;exact Ht (h.inj k nm l' l b' (by rw[hk];rfl) Bd Dx hl Im Be) },
  ⟨by omega,fun k hk hn=>Bc k fun e=>hn (e▸⟨nm,l,Bd,hl,Be⟩),fun k _ ⟨n,l,h1,h2,h3⟩=>by
   obtain⟨b1,Cj⟩:=eP.1 h1;exact⟨n,l,by grind,h2,h3⟩,gJ.refl μ,aK _,fun _ _ h=>h,nonew⟩⟩
theorem step_mark{P:Program}{fr:Frame}{w w':World}{blk:Nat}{args:Array Value}{ds Ra:List Deferred}(hm:fr.mode≠.run)(hd:fr.defers={ target:=.collected blk,args:=args }::ds)(hr:(Instr.takeDeferred blk).run P w = .ok Ra w'):
  Go.step P (lone fr cs w) = .next (lone { fr with defers:=Ra++ds } cs w'):=by
 refine dK ?_
 simp_all [absurd,stepG,unwind]
theorem ds_did{df:Nat→List D→eU→St→Nat→DR}(Hu:DefOK E df):∀(d:List (D×List D)) {m:eU} {s:St} {c:Nat} {m':eU} {s':St} {c':Nat} {ds:List Deferred} {fr:Frame} {μ:Mu} {w:World},
  zDs df d m s c = .ok m' s' c'→lW E M0 w0 μ w s c→iR (Mm M0 μ) w μ d ds→nQ (Mm M0 μ) w μ m fr.mode→fr.defers=ds →
  ∃w' μ' u',Steps E.P (lone fr cs w) (lone { fr with defers:=[],mode:=u' } cs w')∧lW E M0 w0 μ' w' s' c'∧Fr c s μ w c' s' μ' w'∧nQ (Mm M0 μ') w' μ' m' u':=by
 intro d
 induction d with
 | nil=>
  intro m s c m' s' c' ds fr μ w hs h hd hm hf;simp only[zDs,DS.ok.injEq]at hs;obtain⟨rfl,rfl,rfl⟩:=hs;simp only[iR]at hd;subst hd;refine⟨w,μ,fr.mode,?_,h,Fr.refl _ _ _ _,hm⟩;have:({ fr with defers:=[],mode:=fr.mode }:Frame)=fr:=by rw[←hf]
  rw[this];exact .refl _ _
 | cons p r ih=>
  intro m s c m' s' c' ds fr μ w hs h hd hm hf;obtain⟨g,args⟩:=p;cases g
  case fn fv fs cap=>
   cases fv with
   | func f=>
    simp only[zDs]at hs;unfold iR at hd;obtain⟨fn,first,capv,av,r',h1,h2,rfl,h3⟩:=hd;simp only[aY]at h1;obtain⟨va,vb,he,e1,e2⟩:=h1;cases he;cases hz:df f (fs++args++cap) m s c with
    | no=>grind
    | ok o m1 s1 c1=>
     rw[hz]at hs;have Cf:bI (Mm M0 μ) w μ (fs++args++cap) ((first++av)++capv).toList:=by
      simp only[Array.toList_append];exact(e1.append h2).append e2
     obtain⟨Aw,zV⟩:=Hu h Cf hz;have Bh:=step_defer (P:=E.P) (fr:=fr) (cs:=cs) (w:=w) hm.notRun hf rfl (show(invoke (.fn (.func f) capv) (first++av)).run E.P w = .ok (.enter f ((first++av)++capv)) w by
      grind [invoke,xR])
     obtain⟨w1,μ1,u1,zZ,hS,zX,Gf⟩:=zV { fr with defers:=r' } cs hm;rw[Array.toArray_toList]at zZ;have hx:=lW.ext h hS zX;have rest:∀m2,nQ (Mm M0 μ1) w1 μ1 m2 u1→zDs df r m2 s1 c1 = .ok m' s' c'→∃w' μ' u',Steps E.P (lone fr cs w) (lone { fr with defers:=[],mode:=u' } cs w')∧lW E M0 w0 μ' w' s' c'∧Fr c s μ w c' s' μ' w'∧nQ (Mm M0 μ') w' μ' m' u':=by
      intro m2 Ow Bz;obtain⟨w2,μ2,u2,k1,k2,k3,k4⟩:=ih (fr:={ fr with defers:=r',mode:=u1 }) Bz hS (h3.mono hx zX.mu) Ow rfl;exact⟨w2,μ2,u2,.head Bh (fW zZ k1),k2,zX.trans k3,k4⟩
     cases o with
     | ret v=>exact rest _ Gf hs
     | pan ch=>exact rest _ Gf hs
   | _=>grind [zDs]
  case it nm=>
   cases args with
   | cons _ _=>grind [zDs]
   | nil=>
    simp only[zDs]at hs;split at hs
    ·rename_i hg;simp only[iR]at hd;obtain⟨l,b,r',h1,h2,rfl,h3⟩:=hd;obtain⟨l',b',k1,k2,k3,k4⟩:=h.st nm _ l h1 hg;rw[h1]at k1;cases k1;rw[h2]at k2;cases k2
     let w1:World:={ w with heap:=w.heap.setIfInBounds b (.deferred none) }
     have zV:(Instr.takeDeferred b).run E.P w = .ok [] w1:=by
      simp[Instr.takeDeferred,getObj,setObj,Sem.run,k4,w1]
     obtain⟨hx,hR,zX⟩:=Rel.kill h nm l b (w':=w1) h1 h2 (by grind) (by simp[w1]) (fun q hq=>by grind)
     have Bh:=step_mark (P:=E.P) (fr:=fr) (cs:=cs) hm.notRun hf zV;obtain⟨w2,μ2,u2,g1,g2,g3,g4⟩:=ih (fr:={ fr with defers:=[]++r' }) hs hR (h3.mono hx (gJ.refl _)) (hm.mono hx (gJ.refl _)) rfl;exact⟨w2,μ2,u2,.head Bh g1,g2,zX.trans g3,g4⟩
    ·cases hs
  all_goals (simp only[zDs]at hs;cases hs)
theorem enter_fat{P:Program}{f:Nat}{fn:Func}{c:Code}(hf:P.funcs[f]?=some fn)(hb:fn.body=some c)(args:Array Value)(kd:CallKind):
  Frame.enter P f args kd=fat { (default:Frame) with fn:=f,kind:=kd } { tmps:=args++Array.replicate (fn.ntmps-args.size) undef,defers:=[] } [.code c]:=by
 simp[Frame.enter,fat,hf,hb];rfl
theorem zdef_ok(hT:TOK E cx){p:FD}(H:Ctx E cx p.fn)(k:Nat):DefOK E (zdef cx k p):=by
 intro M0 w0 μ w s c f args vals m o m' s' c' h hv hs;unfold zdef at hs;split at hs
 ·rename_i A hA;obtain⟨Aw,fn,Dz,hcomp⟩:=hT.body f A hA;obtain⟨cd,Du,hc,Ba⟩:=rS hcomp;cases zU:Nat.beq args.length A.np<;>rw[zU]at hs
  ·cases hs
  simp only[bG]at hs;refine⟨Aw,fun c0 cs hm=>?_⟩
  let b:Frame:={ (default:Frame) with fn:=f,kind:=.deferred }
  have zZ:=start_rel (N:=fn.ntmps) h hv;rw[enter_fat Dz Du];cases hz:zS cx p.fn k A.body (start args s c) m with
  | no=>rw[hz]at hs;cases hs
  | ok zR x md=>
   rw[hz]at hs;obtain⟨a',w',μ',ou,u',r1,r2,r3,r4,r5,r6⟩:=codeS_did (b:=b) (cs:=cs) (k:=[]) H rfl rfl cd hc zZ rfl hm hz;have Bm:∀d v todo,x.d=[]→results A x=some d→Steps E.P (lone (fat b { tmps:=vals.toArray++Array.replicate (fn.ntmps-vals.toArray.size) undef,defers:=[] } [.code cd]) (c0::cs) w) (lone { fat b a' todo with mode:=.returning } ({ c0 with mode:=u' }::cs) w') →
     (Go.results fn a'.tmps).run E.P w' = .ok v w' →
     ∃Dq μ'' Un,Steps E.P (lone (fat b { tmps:=vals.toArray++Array.replicate (fn.ntmps-vals.toArray.size) undef,defers:=[] } [.code cd]) (c0::cs) w) (lone { c0 with mode:=Un } cs Dq)∧lW E M0 w0 μ'' Dq x.s x.c∧Fr c s μ w x.c x.s μ'' Dq∧nQ (Mm M0 μ'') Dq μ'' (settle md) Un:=by
    intro d v todo hd hr Hm zV;have Hu:a'.defers=[]:=by have:=r1.defers;rw[hd]at this;simpa only[iR]using this
    refine⟨w',μ',Go.settle u',fW Hm (.one ?_),r1.toS,r2,r5.settle⟩;exact step_going_returned (P:=E.P) (fr:={ fat b a' todo with mode:=.returning }) (c:={ c0 with mode:=u' }) (cs:=cs) (v:=v) rfl ⟨rfl,Hu,fn,Dz,zV⟩
   have Uu:(zR = .normal∨zR = .ret)→zdone A (.ret .un) x md = .ok o m' s' c'→∃Dq μ'' Un,Steps E.P (lone (fat b { tmps:=vals.toArray++Array.replicate (fn.ntmps-vals.toArray.size) undef,defers:=[] } [.code cd]) (c0::cs) w) (lone { c0 with mode:=Un } cs Dq)∧lW E M0 w0 μ'' Dq s' c'∧Fr c s μ w c' s' μ'' Dq ∧
     nQ (Mm M0 μ'') Dq μ'' (afterD o m') Un:=by
    intro ho Bz;unfold zdone at Bz;split at Bz
    ·grind
    ·rename_i hd _;cases hr:results A x with
     | none=>grind
     | some d=>
      rw[hr]at Bz;cases Bz;obtain⟨v,zV,_⟩:=results_ok r1 Ba hr;rcases ho with rfl|rfl
      ·cases r4;exact Bm d v [] hd hr (fW r6 (.one (fstep_end rfl))) zV
      ·cases r4;obtain⟨todo,t1⟩:=r6;exact Bm d v _ hd hr (fW t1 (.one (fstep_ret rfl))) zV
    ·cases Bz
   cases zR with
   | normal=>exact Uu (.inl rfl) hs
   | ret=>exact Uu (.inr rfl) hs
   | exit i=>cases hs
   | pan ch=>
    have hs':zdone A (.pan ch) x md = .ok o m' s' c':=hs;unfold zdone at hs';split at hs'
    ·rename_i ch' hd Kh;cases Kh;cases hs';obtain⟨Aj,rfl,Iq⟩:=r4;obtain⟨todo,_,t1⟩:=r6;have Hu:a'.defers=[]:=by have:=r1.defers;rw[hd]at this;simpa only[iR]using this
     refine⟨w',μ',Go.raised u' Aj,fW t1 (.one ?_),r1.toS,r2,r5.raised Iq⟩;exact step_going_panicked (P:=E.P) (fr:={ fat b a' todo with mode:=.panicking Aj }) (c:={ c0 with mode:=u' }) (cs:=cs) ⟨rfl,Hu,fn,Dz⟩
    ·rename_i Kh;cases Kh
    ·cases hs'
 ·cases hs
theorem body_one{p:FD}(Hu:DefOK E p.df){s:St}{c f:Nat}{args:List D}{vals:List Value}{o:FO}{s':St}{c':Nat}{A:AF}{fn:Func}{cd:Code}(Dz:E.P.funcs[f]?=some fn)
  (Ba:fn.results.toList.mapM (pP E.P)=some A.res) {b:Frame} (hb:b={ (default:Frame) with fn:=f,kind:=.normal }) {zR:Out} {x:AS}
  (hD:Did E M0 w0 fn.ntmps μ w (start args s c) (lone (fat b { tmps:=vals.toArray++Array.replicate (fn.ntmps-vals.toArray.size) undef,defers:=[] } [.code cd]) cs w) b [] cs zR x)
  (hs:zbody p.df A (.ok zR x) = .ok o s' c') :
  ∃e Dq fr,uP E M0 w0 μ w c s o s' c' e Dq∧Comes E.P (lone (fat b { tmps:=vals.toArray++Array.replicate (fn.ntmps-vals.toArray.size) undef,defers:=[] } [.code cd]) cs w) (lone fr cs Dq) e∧fr.fn=f∧fr.leaving E.P Dq e:=by
 subst hb
 let b:Frame:={ (default:Frame) with fn:=f,kind:=.normal }
 obtain⟨a',w',μ',ou,r1,r2,r3,r4,r5⟩:=hD;have Bm:∀(m:eU) (u:FrameMode) (todo:List Item),nQ (Mm M0 μ') w' μ' m u→Steps E.P (lone (fat b { tmps:=vals.toArray++Array.replicate (fn.ntmps-vals.toArray.size) undef,defers:=[] } [.code cd]) cs w) (lone { fat b a' todo with mode:=u } cs w') →
   pU p.df A m x = .ok o s' c'→∃e Dq fr,uP E M0 w0 μ w c s o s' c' e Dq∧Comes E.P (lone (fat b { tmps:=vals.toArray++Array.replicate (fn.ntmps-vals.toArray.size) undef,defers:=[] } [.code cd]) cs w) (lone fr cs Dq) e∧fr.fn=f∧fr.leaving E.P Dq e:=by
  intro m u todo hm Hm he;unfold pU at he;cases hd:zDs p.df x.d m x.s x.c with
  | no=>grind
  | ok m1 s1 c1=>
   rw[hd]at he;obtain⟨w2,μ2,u2,k1,k2,k3,k4⟩:=ds_did (cs:=cs) Hu x.d (fr:={ fat b a' todo with mode:=u }) hd r1.toS r1.defers hm rfl;cases m1 with
   | none=>
    simp only at he;have hu:u2 = .returning:=k4;subst hu;cases hr:results A ⟨x.t,s1,c1,x.d,x.r⟩ with
    | none=>grind
    | some d=>
     rw[hr]at he;cases he;have hR:=r1.carry k2 k3;obtain⟨v,zV,Hl⟩:=results_ok hR Ba hr;exact⟨.returned v,w2,_,⟨μ2,k2,r2.trans k3,v,rfl,Hl⟩,fW Hm k1,rfl,rfl,rfl,rfl,fn,Dz,zV⟩
   | some ch=>
    simp only at he;cases he;obtain⟨Aj,hu,Iq⟩:=k4;subst hu;exact⟨.panicked Aj,w2,_,⟨μ2,k2,r2.trans k3,Aj,rfl,Iq⟩,fW Hm k1,rfl,rfl,rfl,fn,Dz⟩
 cases zR with
 | normal=>
  cases r4;exact Bm none .returning [] rfl (fW r5 (.one (fstep_end rfl))) hs
 | ret=>
  cases r4;obtain⟨todo,t1⟩:=r5;exact Bm none .returning _ rfl (fW t1 (.one (fstep_ret rfl))) hs
 | exit i=>cases hs
 | pan ch=>
  obtain⟨Aj,rfl,Iq⟩:=r4;obtain⟨todo,_,t1⟩:=r5;exact Bm (some ch) (.panicking Aj) todo ⟨Aj,rfl,Iq⟩ t1 hs
theorem wY(hT:TOK E cx){p:FD}(H:Ctx E cx p.fn)(Hu:DefOK E p.df)(k:Nat){s:St}{c f:Nat}{args:List D}{vals:List Value}{o:FO}{s':St}{c':Nat}(h:lW E M0 w0 μ w s c)(hv:bI (Mm M0 μ) w μ args vals)
  (hs:zcall cx k p f args s c = .ok o s' c'):callable E.P f=true∧Calls E.P f vals.toArray w (uP E M0 w0 μ w c s o s' c'):=by
 unfold zcall at hs;split at hs
 ·rename_i A hA;obtain⟨Aw,fn,Dz,hcomp⟩:=hT.body f A hA;obtain⟨cd,Du,hc,Ba⟩:=rS hcomp;cases zU:Nat.beq args.length A.np<;>rw[zU]at hs
  ·cases hs
  simp only[bG]at hs;refine⟨Aw,fun cs=>?_⟩
  have zZ:=start_rel (N:=fn.ntmps) h hv;rw[enter_fat Dz Du];cases hz:zC A.body cx p.fn k (start args s c) with
  | no=>rw[hz]at hs;cases hs
  | ok zR x=>
   rw[hz]at hs;exact body_one Hu Dz Ba rfl (qK (b:={ (default:Frame) with fn:=f,kind:=.normal }) (cs:=cs) (k:=[]) H cd hc zZ rfl hz) hs
 ·cases hs
end
end Zv
