/- Functions: their beginnings and their results; deferred calls that recover. Conditions: none. -/
import Derived.Test.YtnpoohbeicakkaaGreatDoorZAH
set_option linter.unusedSimpArgs false
set_option linter.unusedVariables false
namespace Zv
open Go
theorem trget_nd'{α:Type}(a b:Tr α)(n:Nat):(Tr.nd a b).get n=if n % 2=0 then a.get (n / 2) else b.get (n / 2):=by
 show(Nat.rec (a.get (n / 2)) (fun _ _=>b.get (n / 2)) (n % 2):Option α)=_
 rcases Nat.mod_two_eq_zero_or_one n with h|h<;>rw[h]<;>rfl
theorem tget_tm0(n:Nat):tget tm0 n = .un:=by
 have hl:∀n,(Tr.ls []:Tm).get n=none:=fun n=>rfl
 have hn:∀(a b:Tm),(∀n,a.get n=none)→(∀n,b.get n=none)→∀n,(Tr.nd a b).get n=none:=fun a b ha hb n=>by
  rw[trget_nd'];split
  ·exact ha _
  ·exact hb _
 have h1:=hn _ _ hl hl;have h2:=hn _ _ h1 h1;have h3:=hn _ _ h2 h2;have h4:=hn _ _ h3 h3;have h5:=hn _ _ h4 h4;have:tm0.get n=none:=by
  first
   | exact h5 n
   | exact h4 n
   | exact h3 n
 show undD (tm0.get n) = .un;rw[this];rfl
theorem tget_argTm:∀(k:Nat) (args:List D) (t:Tm) (n:Nat),tget (jZ k args t) n=if k≤n∧n-k<args.length then(args[n-k]?).getD .un else tget t n
 | k,[],t,n=>by simp[jZ]
 | k,d::r,t,n=>by
  simp only[jZ,tget_argTm (k+1) r (tput t k d) n,kI];by_cases h:n=k
  ·subst h;rw[aD (by omega),aH rfl,aH (by simp)]
   simp
  ·rw[aD h];by_cases h1:k+1≤n∧n-(k+1)<r.length
   ·rw[aH h1,aH ⟨by omega,by simp;omega⟩,show n-k=(n-(k+1))+1 by omega,List.getElem?_cons_succ]
   ·rw[aD h1,aD];rintro⟨h2,h3⟩;simp only[aU]at h3;exact h1 ⟨by omega,by omega⟩
section
variable {E:Env} {M0:Nat→Prop} {w0:World} {N:Nat} {μ:Mu} {M:Nat→Prop} {a:Act} {w:World} {x:AS}
theorem start_rel{s:St}{c:Nat}(h:kU E M0 w0 μ w s c){args:List D}{vals:List Value}(hv:aX (Mm M0 μ) w μ args vals):
  Rel E M0 w0 N μ { tmps:=vals.toArray++Array.replicate (N-vals.toArray.size) undef,defers:=[] } w (start args s c):=by
 refine h.frame (by simp;omega) (fun n=>?_) (by simp only[iL])
 rw[tget_argTm,tget_tm0];by_cases hn:0≤n∧n-0<args.length
 ·rw[aH hn];have hlt:n<args.length:=by omega
  have ha:args[n]?=some args[n]:=aI hlt;obtain⟨v,h1,h2⟩:=hv.get n _ ha;have hlv:n<vals.length:=(cH.1 h1).1;have:(vals.toArray++Array.replicate (N-vals.toArray.size) undef).getD n undef=v:=by
   rw[eJ,Array.getElem?_append_left (by simpa using hlv)]
   simp[h1]
  show aP (Mm M0 μ) w μ _ ((vals.toArray++Array.replicate (N-vals.toArray.size) undef).getD n undef);rw[this,fF,ha];exact h2
 ·rw[aD hn];simp only[aP]
theorem rv_run(h:Rel E M0 w0 N μ a w x){r:ResultVar}{rv:RV}{d:D}(hc:oQ E.P r=some rv)(hg:RV.get x rv=some d):
  ∃v,(match r with | .tmp t=>pure (a.tmps.getD t undef) | .cell p t=>do loadVar t (←asAddr (a.tmps.getD p undef)):Sem Value).run E.P w = .ok v w∧aP (Mm M0 μ) w μ d v:=by
 cases r with
 | tmp t=>
  simp only[oQ,aC]at hc;subst hc;simp only[RV.get,aC]at hg;subst hg;exact⟨_,bO _ _ _,h.tm t⟩
 | cell p t=>
  simp only[oQ,aB,aA,aC]at hc;obtain⟨sz,hsz,rfl⟩:=hc;simp only[RV.get,aB,aA]at hg;obtain⟨⟨cs,off⟩,h1,h2⟩:=hg;obtain⟨b,o,hval,hcells⟩:=seen_rel h h1 (h.tm p);obtain⟨v,hrun,hr⟩:=rS (P:=E.P) hsz h2 hcells;refine⟨v,?_,hr⟩;simp[hval,asAddr,hrun]
theorem uW{α:Type}{P:Program}{f:α→Sem Value}{R:Nat→Value→Prop}{w:World}:∀(l:List α) (k:Nat),(∀i r,l[i]?=some r→∃v,(f r).run P w = .ok v w∧R (k+i) v) →
  ∃vs,(l.mapM f).run P w = .ok vs w∧vs.length=l.length∧∀i v,vs[i]?=some v→R (k+i) v
 | [],k,_=>⟨[],by simp,rfl,fun i v h=>by simp at h⟩
 | r::l,k,h=>by
  obtain⟨v,h1,h2⟩:=h 0 r rfl;obtain⟨vs,h3,h4,h5⟩:=uW l (k+1) fun i r' hi=>by
   have:=h (i+1) r' (by simpa using hi)
   rwa [show k+(i+1)=k+1+i by omega]at this
  refine⟨v::vs,by simp[List.mapM_cons,h1,h3],by simp[h4],fun i u hi=>?_⟩
  cases i with
  | zero=>simp only[aT,aC]at hi;subst hi;exact h2
  | succ i=>
   have:=h5 i u (by simpa using hi)
   rwa [show k+(i+1)=k+1+i by omega]
theorem results_run(h:Rel E M0 w0 N μ a w x){fn:Func}{A:AF}(hc:fn.results.toList.mapM (oQ E.P)=some A.res){ds:List D}(hg:A.res.mapM (RV.get x)=some ds):
  ∃v,(Go.results fn a.tmps).run E.P w = .ok v w∧aP (Mm M0 μ) w μ (retD ds) v:=by
 obtain⟨l1,l2⟩:=lZ hc;obtain⟨l3,l4⟩:=lZ hg;obtain⟨vs,h1,h2,h3⟩:=uW (P:=E.P) (w:=w) (R:=fun i v=>∃d,ds[i]?=some d∧aP (Mm M0 μ) w μ d v)
  (f:=fun r=>(match r with | .tmp t=>pure (a.tmps.getD t undef) | .cell p t=>do loadVar t (←asAddr (a.tmps.getD p undef)):Sem Value)) fn.results.toList 0 (fun i r hr=>by
   have hi:i<A.res.length:=by have:=(cH.1 hr).1;omega
   have e1:A.res[i]?=some A.res[i]:=aI hi;have hi':i<ds.length:=by omega
   have e2:ds[i]?=some ds[i]:=aI hi';obtain⟨v,h1,h2⟩:=rv_run h (l2 i r _ hr e1) (l4 i _ _ e1 e2);exact⟨v,h1,ds[i],by simp,h2⟩)
 have hrun:(fn.results.mapM (fun r=>(match r with | .tmp t=>pure (a.tmps.getD t undef) | .cell p t=>do loadVar t (←asAddr (a.tmps.getD p undef)):Sem Value))).run E.P w = .ok vs.toArray w:=by
  rw[Array.mapM_eq_mapM_toList];simp at h1 ⊢;rw[h1];rfl
 have hlen:vs.length=ds.length:=by omega
 have hrel:aX (Mm M0 μ) w μ ds vs:=aX.mk hlen fun i d v hd hv=>by
  obtain⟨d',e,hr⟩:=h3 i v hv;rw[bK,hd]at e;cases e;exact hr
 refine⟨if h:vs.toArray.size=1 then vs.toArray[0]else .tuple vs.toArray,?_,?_⟩
 ·unfold Go.results;rw[aY];exact congrArg (fun r=>Result.andThen r fun a w'=>Sem.run E.P (pure (if h:a.size=1 then a[0]else Value.tuple a)) w') hrun
 ·match ds,vs,hrel with
  | [],vs,hr=>simp only[aX]at hr;subst hr;simp only[retD,aP];exact⟨_,rfl,by simp only[aX]⟩
  | [d],vs,hr=>
   simp only[aX]at hr;obtain⟨v,_,rfl,hv,rfl⟩:=hr;simpa[retD]using hv
  | d::e::r,vs,hr=>
   have hne:vs.toArray.size≠1:=by have:=hr.length;simp at this ⊢;omega
   rw[dif_neg hne];simp only[retD,aP];exact⟨_,rfl,hr⟩
theorem results_ok(h:Rel E M0 w0 N μ a w x){fn:Func}{A:AF}(hc:fn.results.toList.mapM (oQ E.P)=some A.res){d:D}(hr:results A x=some d):
  ∃v,(Go.results fn a.tmps).run E.P w = .ok v w∧aP (Mm M0 μ) w μ d v:=by
 simp only[results,aG]at hr;obtain⟨ds,h1,rfl⟩:=hr;exact results_run h hc h1
end
def mR(M:Nat→Prop)(w:World)(μ:Mu):dS→FrameMode→Prop
 | none,u=>u = .returning
 | some c,u=>∃ch,u = .panicking ch∧iW M w μ c ch
theorem mR.mono{M M':Nat→Prop}{w w':World}{μ μ':Mu}(hx:Ext M w M' w')(hm:fV μ μ'){m:dS}{u:FrameMode}(h:mR M w μ m u):mR M' w' μ' m u:=by
 cases m with
 | none=>exact h
 | some c=>obtain⟨ch,h1,h2⟩:=h;exact⟨ch,h1,iW.mono hx hm h2⟩
theorem mR.notRun{M:Nat→Prop}{w:World}{μ:Mu}{m:dS}{u:FrameMode}(h:mR M w μ m u):u≠.run:=by
 cases m with
 | none=>rw[show u = .returning from h];intro e;cases e
 | some c=>obtain⟨ch,rfl,_⟩:=h;intro e;cases e
theorem iW.noexit{M:Nat→Prop}{w:World}{μ:Mu}:∀{c:Ch} {l:List PanicEntry},iW M w μ c l→∀p∈l,p.goexit=false
 | [],_,h,p,hp=>by simp only[iW]at h;subst h;cases hp
 | (d,r)::c,_,h,p,hp=>by
  simp only[iW]at h;obtain⟨v,l',rfl,h1,h2⟩:=h;rcases bL.1 hp with rfl|hp
  ·rfl
  ·exact iW.noexit h2 p hp
theorem mR.settle{M:Nat→Prop}{w:World}{μ:Mu}{m:dS}{u:FrameMode}(h:mR M w μ m u):mR M w μ (settle m) (Go.settle u):=by
 cases m with
 | none=>rw[show u = .returning from h];exact rfl
 | some c=>
  obtain⟨ch,rfl,hc⟩:=h;cases c with
  | nil=>simp only[iW]at hc;subst hc;exact⟨[],rfl,by simp only[iW]⟩
  | cons p c=>
   obtain⟨d,r⟩:=p;have hc':=hc;simp only[iW]at hc;obtain⟨v,l',rfl,h1,h2⟩:=hc;cases r with
   | false=>exact⟨_,rfl,hc'⟩
   | true=>
    have hno:=iW.noexit h2;have hd:l'.dropWhile (fun p=>!p.goexit)=[]:=by
     clear h2 hc'
     induction l' with
     | nil=>rfl
     | cons q r ih=>
      rw[List.dropWhile_cons,aH (by rw[hno q bH];rfl)]
      exact ih fun p hp=>hno p (bG _ hp)
    show Go.settle (.panicking _) = .returning;simp only[Go.settle,hd]
theorem iW.append{M:Nat→Prop}{w:World}{μ:Mu}:∀{c c':Ch} {l l':List PanicEntry},iW M w μ c l→iW M w μ c' l'→iW M w μ (c++c') (l++l')
 | [],_,_,_,h,h'=>by simp only[iW]at h;subst h;exact h'
 | (d,r)::c,_,_,_,h,h'=>by
  simp only[iW,cD]at h ⊢;obtain⟨v,l1,rfl,h1,h2⟩:=h;exact⟨v,l1++_,rfl,h1,iW.append h2 h'⟩
theorem mR.raised{M:Nat→Prop}{w:World}{μ:Mu}{m:dS}{u:FrameMode}{ch:Ch}{chain:List PanicEntry}(h:mR M w μ m u)(hc:iW M w μ ch chain):mR M w μ (raised m ch) (Go.raised u chain):=by
 cases m with
 | none=>rw[show u = .returning from h];exact⟨chain,rfl,hc⟩
 | some c=>obtain⟨old,rfl,ho⟩:=h;exact⟨_,rfl,hc.append ho⟩
section
variable {E:Env} {cx:Cx} {cl:CL} {M0:Nat→Prop} {w0:World} {N:Nat} {μ:Mu} {M:Nat→Prop} {a:Act} {w:World} {x:AS} {b:Frame} {k:List Item} {cs:List Frame}
def oK(E:Env)(M0:Nat→Prop)(w0:World)(N:Nat)(μ:Mu)(w:World)(x:AS)(m:Machine)(b:Frame)(k:List Item)(c0:Frame)(cs:List Frame)(out:Out)(y:AS)(md:dS):Prop:=
 ∃a' w' μ' ou u',Rel E M0 w0 N μ' a' w' y∧Fr x.c x.s μ w y.c y.s μ' w'∧y.r=x.r∧OuRel (Mm M0 μ') w' μ' out ou∧mR (Mm M0 μ') w' μ' md u'∧Ends E.P m b k ({ c0 with mode:=u' }::cs) ou a' w'
theorem Did.toS{m:Machine}{c0:Frame}{out:Out}{y:AS}{md:dS}(h0:Rel E M0 w0 N μ a w x)(h:Did E M0 w0 N μ w x m b k (c0::cs) out y)(hm:mR (Mm M0 μ) w μ md c0.mode):oK E M0 w0 N μ w x m b k c0 cs out y md:=by
 obtain⟨a',w',μ',ou,h1,h2,h3,h4,h5⟩:=h;exact⟨a',w',μ',ou,c0.mode,h1,h2,h3,h4,hm.mono h2.ext h2.mu,h5⟩
theorem oK.of_steps{m m1:Machine}{c0:Frame}{out:Out}{y:AS}{md:dS}(h:Steps E.P m m1)(h':oK E M0 w0 N μ w x m1 b k c0 cs out y md):oK E M0 w0 N μ w x m b k c0 cs out y md:=by
 obtain⟨a',w',μ',ou,u',h1,h2,h3,h4,h5,h6⟩:=h';exact⟨a',w',μ',ou,u',h1,h2,h3,h4,h5,h6.of_steps h⟩
theorem oK.bind{m:Machine}{k1:List Item}{c0:Frame}{out:Out}{y z:AS}{md1 md:dS}(h1:oK E M0 w0 N μ w x m b k1 c0 cs .normal z md1)
  (h2:∀a' w' μ' u',Rel E M0 w0 N μ' a' w' z→fV μ μ'→z.r=x.r→mR (Mm M0 μ') w' μ' md1 u'→oK E M0 w0 N μ' w' z (lone (fat b a' k1) ({ c0 with mode:=u' }::cs) w') b k { c0 with mode:=u' } cs out y md) :
  oK E M0 w0 N μ w x m b k c0 cs out y md:=by
 obtain⟨a1,w1,μ1,ou1,u1,r1,f1,e1,o1,m1,n1⟩:=h1;cases o1;obtain⟨a2,w2,μ2,ou2,u2,r2,f2,e2,o2,m2,n2⟩:=h2 a1 w1 μ1 u1 r1 f1.mu e1 m1;exact⟨a2,w2,μ2,ou2,u2,r2,f1.trans f2,e2.trans e1,o2,m2,n2.of_steps n1⟩
theorem oK.pass{m:Machine}{it:Item}{c0:Frame}{out:Out}{y:AS}{md:dS}(hx:∀id,iA id (it::k)=iA id k)(hn:out≠.normal)(h:oK E M0 w0 N μ w x m b (it::k) c0 cs out y md):
  oK E M0 w0 N μ w x m b k c0 cs out y md:=by
 obtain⟨a1,w1,μ1,ou1,u1,r1,f1,e1,o1,m1,n1⟩:=h;exact⟨a1,w1,μ1,ou1,u1,r1,f1,e1,o1,m1,n1.pass hx (o1.normal_iff hn)⟩
theorem run_recover{P:Program}{ρ:Operand→Value}{o:Oper}{c:Call}(ho:o.op = .call c)(hc:c.callee = .builtin .recover)(w:World):(execOp ρ o).run P w = .ok .recover w:=by
 simp only[execOp,ho,resolve,hc,aY,bO,aM,invoke,builtin]
theorem opsS_did(H:Ctx E cx cl)(hk:b.kind = .deferred)(hro:b.roundOf=none){ops:Array Oper}:
  ∀{l:List Oper} {idx:List Nat} {az:List cR} {μ:Mu} {a:Act} {w:World} {x:AS} {md:dS} {c0:Frame},Rel E M0 w0 N μ a w x→x.r=none→mR (Mm M0 μ) w μ md c0.mode→idx.map (ops[·]?)=l.map some→lD E.P N ops l=some az →
   ∀{out:Out} {y:AS} {md':dS},jL cx cl az x md = .ok out y md'→oK E M0 w0 N μ w x (lone (fat b a (.inRegion ops idx::k)) (c0::cs) w) b k c0 cs out y md':=by
 intro l
 induction l with
 | nil=>
  intro idx az μ a w x md c0 h hr hm hi hc out y md' hs;simp only[eX,List.map_eq_nil_iff]at hi;subst hi;simp only[lD,aC]at hc;subst hc;simp only[jL,RS.ok.injEq]at hs;obtain⟨rfl,rfl,rfl⟩:=hs;exact⟨a,w,μ,.normal,c0.mode,h,Fr.refl _ _ _ _,rfl,rfl,hm,.one kJ⟩
 | cons o l ih=>
  intro idx az μ a w x md c0 h hr hm hi hc out y md' hs;cases idx with
  | nil=>cases hi
  | cons i rest=>
   simp only[bW,List.cons.injEq]at hi;obtain⟨hio,hi⟩:=hi;simp only[lD,aB,aA,aC]at hc;obtain⟨ao,hao,r,hcr,rfl⟩:=hc;obtain⟨hop,hdst,hgd,hd⟩:=mP hao
   have put_did:∀(c0':Frame) (md1:dS) (d:D) (v:Value) (m:Machine) (m1:dS) (out:Out) (y:AS),aP (Mm M0 μ) w μ d v→mR (Mm M0 μ) w μ md1 c0'.mode→(∃u,c0'={ c0 with mode:=u }) →
     Steps E.P m (lone (fat b (a.put o.dst v) (.inRegion ops rest::k)) (c0'::cs) w)→jL cx cl r (x.put ao.dst d) md1 = .ok out y m1→oK E M0 w0 N μ w x m b k c0 cs out y m1:=by
    rintro c0' md1 d v m m1 out y hv hm1 ⟨u,rfl⟩ hst hz;have hput:Rel E M0 w0 N μ (a.put o.dst v) w (x.put ao.dst d):=by rw[hdst];exact h.put hd hv
    obtain⟨a',w',μ',ou,u',h1,h2,h3,h4,h5,h6⟩:=ih hput (by rw[(put_r x _ _).1];exact hr) hm1 hi hcr hz
    exact⟨a',w',μ',ou,u',h1,by revert h2;cases ao.dst<;>exact id,h3.trans (put_r x _ _).1,h4,h5,h6.of_steps hst⟩
   simp only[jL]at hs;cases hwd:wanted ao x with
   | none=>rw[hwd]at hs;cases hs
   | some c=>
    have hw:=jT h hgd hwd;rw[hwd]at hs;cases c with
    | false=>
     simp only at hs;have hst:=kR (P:=E.P) (b:=b) (a:=a) (k:=k) (cs:=c0::cs) (w:=w) (ops:=ops) (i:=i) (rest:=rest) (by simp[hio,hw])
     simp only[hio,aO]at hst;exact put_did c0 md (.tup []) undef _ _ _ _ (by simp only[aP];exact⟨#[],rfl,rfl⟩) hm ⟨c0.mode,rfl⟩ (.one hst) hs
    | true=>
     simp only at hs;have hg:=lM (P:=E.P) (b:=b) (a:=a) (k:=k) (cs:=c0::cs) (w:=w) (rest:=rest) hio hw (.inl hro);have hfin:∀v,(fat b a (.inRegion ops (i::rest)::k)).finish v=fat b (a.put o.dst v) (.inRegion ops rest::k):=fun v=>by
      rw[mN,hio];rfl
     by_cases hrcv:ao.op = .rcv
     · -- recover
      rw[hrcv]at hs hop;simp only at hs;have hrec:∃c,o.op = .call c∧c.callee = .builtin .recover:=by
       rcases cOp_kind hop with⟨hdt,_⟩|⟨_,_,_,_,_,_,e⟩|⟨_,_,_,_,_,_,_,_,e⟩|⟨_,_,_,_,_,_,_,_,_,e⟩|⟨_,_,_,_,e⟩|⟨_,_,_,_,_,_,_,_,e⟩|⟨c,h1,h2,_⟩
       ·exact hdt.elim
       all_goals first
        | cases e
        | exact⟨c,h1,h2⟩
      obtain⟨c,hoc,hcb⟩:=hrec;have hrun:=run_recover (P:=E.P) (ρ:=a.eval) hoc hcb w;have hap:=apply_recover (P:=E.P) (fr:=fat b a (.inRegion ops (i::rest)::k)) (cs:=c0::cs) hrun hro;rw[tryRecover_deferred (show(fat b a (.inRegion ops (i::rest)::k)).kind = .deferred from hk)]at hap
      have none_did:recoverD (c0::cs)=none→jL cx cl r (x.put ao.dst .nilif) md = .ok out y md'→oK E M0 w0 N μ w x (lone (fat b a (.inRegion ops (i::rest)::k)) (c0::cs) w) b k c0 cs out y md':=fun hn hz=>by
       rw[hn]at hap;exact put_did c0 md .nilif .nilIface _ _ _ _ (by simp only[aP]) hm ⟨c0.mode,rfl⟩ (.one (cV (by rw[hg,←hfin];exact hap))) hz
      cases md with
      | none=>
       simp only at hs;exact none_did (by simp[recoverD,show c0.mode = .returning from hm]) hs
      | some ch=>
       obtain⟨chain,hmode,hch⟩:=hm;cases ch with
       | nil=>
        simp only at hs;simp only[iW]at hch;subst hch;exact none_did (by simp[recoverD,hmode]) hs
       | cons p older=>
        obtain⟨d,rec⟩:=p;simp only[iW]at hch;obtain⟨v,l',rfl,hv,hold⟩:=hch;cases rec with
        | true=>
         simp only at hs;exact none_did (by simp[recoverD,hmode]) hs
        | false=>
         simp only at hs;have hrd:recoverD (c0::cs)=some (v,{ c0 with mode:=.panicking ({ v,recovered:=true }::l') }::cs):=by
          simp[recoverD,hmode]
         rw[hrd]at hap;exact put_did { c0 with mode:=.panicking ({ v,recovered:=true }::l') } (some ((d,true)::older)) d v _ _ _ _ hv ⟨_,rfl,by simp only[iW];exact⟨v,l',rfl,hv,hold⟩⟩ ⟨_,rfl⟩
          (.one (cV (by rw[hg,←hfin];exact hap))) hs
     · -- any other operation
      have hs':(match zOp cx cl ao x with
        | .ok .normal y=>jL cx cl r y md
        | .ok e y=>.ok e y md
        | .no=>.no) = .ok out y md':=by
       revert hs;cases hop':ao.op<;>first
        | exact absurd hop' hrcv
        | exact id
      cases hz:zOp cx cl ao x with
      | no=>rw[hz]at hs';cases hs'
      | ok o' z=>
       rw[hz]at hs';have hD:=(op_did (k:=k) (cs:=c0::cs) (rest:=rest) H.call H.meth H.glob h (by rw[hr];exact hro) hao hio hw hz).toS h hm
       by_cases hn:o' = .normal
       ·subst hn;simp only at hs';exact hD.bind fun a' w' μ' u' g1 g2 g3 g4=>ih g1 (g3.trans hr) g4 hi hcr hs'
       ·have:RS.ok o' z md = .ok out y md':=by
         cases o'<;>first|exact absurd rfl hn|exact hs'
        cases this;exact hD.pass (fun _=>rfl) hn
end
section
variable {E:Env} {cx:Cx} {cl:CL} {M0:Nat→Prop} {w0:World} {N:Nat} {μ:Mu} {M:Nat→Prop} {a:Act} {w:World} {x:AS} {b:Frame} {k:List Item} {cs:List Frame}
theorem back_code{r:R}{out:Out}{y:AS}{md md':dS}(h:(match r with | .ok o y=>RS.ok o y md | .no=>.no) = .ok out y md'):r = .ok out y∧md'=md:=by
 cases r with
 | no=>cases h
 | ok o z=>cases h;exact⟨rfl,rfl⟩
theorem blockS_did{c:Code}{id:Nat}{c0:Frame}{r:RS}{out:Out}{y:AS}{md':dS}
  (hs:(match r with | .ok (.exit i) y m=>bif Nat.beq i (2*id) then RS.ok .normal y m else .ok (.exit i) y m|r=>r) = .ok out y md')
  (hbody:∀o z m,r = .ok o z m→oK E M0 w0 N μ w x (lone (fat b a (.code c :: .inBlock id::k)) (c0::cs) w) b (.inBlock id::k) c0 cs o z m) :
  oK E M0 w0 N μ w x (lone (fat b a (.code (.block id c)::k)) (c0::cs) w) b k c0 cs out y md':=by
 refine oK.of_steps (.one fstep_block) ?_;cases r with
 | no=>cases hs
 | ok o z m=>
  obtain⟨a',w',μ',ou,u',r1,r2,r3,r4,r5,r6⟩:=hbody o z m rfl;cases o with
  | normal=>
   cases hs;cases r4;exact⟨a',w',μ',.normal,u',r1,r2,r3,rfl,r5,fB r6 (.one uX)⟩
  | exit i=>
   cases r4;obtain⟨todo,t1,t2⟩:=r6;simp only at hs;cases hb:Nat.beq i (2*id)<;>rw[hb]at hs
   ·cases hs;have hne:i≠2*id:=fun e=>by subst e;simp at hb
    exact⟨a',w',μ',.exit i,u',r1,r2,r3,rfl,r5,todo,t1.trans (rV hne k),t2⟩
   ·cases hs;have:=aR hb;subst this;exact⟨a',w',μ',.normal,u',r1,r2,r3,rfl,r5,fB t2 (.one (vH (t1.trans (xH id k))))⟩
  | ret=>
   cases hs;cases r4;exact⟨a',w',μ',.ret,u',r1,r2,r3,rfl,r5,r6⟩
  | pan c=>
   cases hs;obtain⟨ch,rfl,hc⟩:=r4;exact⟨a',w',μ',.pan ch,u',r1,r2,r3,⟨ch,rfl,hc⟩,r5,r6⟩
theorem stuck_noS(cx:Cx)(cl:CL)(fuel:Nat)(x:AS)(md:dS):zS cx cl fuel stuckC x md = .no:=by
 simp only[stuckC,zS];rfl
theorem codeS_did(H:Ctx E cx cl)(hk:b.kind = .deferred)(hro:b.roundOf=none):∀(c:Code) {ac:AC},comp E.P N c=some ac→∀{fuel:Nat} {μ:Mu} {a:Act} {w:World} {x:AS} {md:dS} {c0:Frame} {k:List Item} {out:Out} {y:AS} {md':dS},
  Rel E M0 w0 N μ a w x→x.r=none→mR (Mm M0 μ) w μ md c0.mode→zS cx cl fuel ac x md = .ok out y md'→oK E M0 w0 N μ w x (lone (fat b a (.code c::k)) (c0::cs) w) b k c0 cs out y md':=by
 intro c;have fall:∀(c:Code) {ac:AC},comp E.P N c=some ac→∀{fuel:Nat} {μ:Mu} {a:Act} {w:World} {x:AS} {md:dS} {c0:Frame} {k:List Item} {out:Out} {y:AS} {md':dS},
   Rel E M0 w0 N μ a w x→x.r=none→mR (Mm M0 μ) w μ md c0.mode→(bif ac.noRcv then(match zC ac cx cl fuel x with | .ok o y=>RS.ok o y md | .no=>.no) else .no) = .ok out y md' →
   oK E M0 w0 N μ w x (lone (fat b a (.code c::k)) (c0::cs) w) b k c0 cs out y md':=by
  intro c ac hc fuel μ a w x md c0 k out y md' h hr hm hs;cases hn:ac.noRcv<;>rw[hn]at hs
  ·cases hs
  ·obtain⟨h1,rfl⟩:=back_code hs;exact(pV H c hc h (by rw[hr];exact hro) h1).toS h hm
 induction c with
 | region id ops draw=>
  intro ac hc fuel μ a w x md c0 k out y md' h hr hm hs;cases draw with
  | true=>
   have hc':=hc;simp only[comp,aB,aA]at hc;obtain⟨l,hl,hc⟩:=hc;simp only[aS]at hc;cases hok:(mS ops.size (ancs ops.toList []) l (nU (ancs ops.toList []) (l.map fun o=>o.op.kd)) 0 [] []&&Nat.ble ops.size (nU (ancs ops.toList []) (l.map fun o=>o.op.kd)).length)<;>rw[hok]at hc
   ·cases hc
   ·simp only[aS,aC]at hc;subst hc;simp only[zS]at hs;exact fall _ hc' (fuel:=fuel) h hr hm hs
  | false=>
   simp only[comp,aB,aA]at hc;obtain⟨l,hl,hc⟩:=hc;simp only[cF,aC]at hc;subst hc;simp only[zS]at hs;refine oK.of_steps (.one rG) (opsS_did H hk hro h hr hm ?_ hl hs);apply List.ext_getElem?;intro j;simp only[gX,List.getElem?_range];by_cases hj:j<ops.size
   ·simp[hj]
   ·simp[hj]
 | seq p q ihp ihq=>
  intro ac hc fuel μ a w x md c0 k out y md' h hr hm hs;simp only[comp,aB,aA,aC]at hc;obtain⟨p',hp,q',hq,rfl⟩:=hc;simp only[zS]at hs;refine oK.of_steps (.one fstep_seq) ?_;cases hz:zS cx cl fuel p' x md with
  | no=>rw[hz]at hs;cases hs
  | ok o z m=>
   rw[hz]at hs;have hD:=ihp hp (k:=.code q::k) h hr hm hz;by_cases hn:o = .normal
   ·subst hn;exact hD.bind fun a' w' μ' u' g1 g2 g3 g4=>ihq hq g1 (g3.trans hr) g4 hs
   ·have:RS.ok o z m = .ok out y md':=by cases o<;>first|exact absurd rfl hn|exact hs
    cases this;exact hD.pass (fun _=>rfl) hn
 | cond c p q ihp ihq=>
  intro ac hc fuel μ a w x md c0 k out y md' h hr hm hs;simp only[comp,aB,aA,aC]at hc;obtain⟨c',hcc,rfl⟩:=hc;simp only[zS]at hs;have hv:=cP h hcc;rw[H.glob]at hs;split at hs
  ·rename_i r he;rw[he]at hv;simp only[aP]at hv;refine oK.of_steps (.one (vI hv)) ?_;cases r with
   | true=>
    have hs2:zS cx cl fuel (mT (comp E.P N p)) x md = .ok out y md':=hs;cases hp:comp E.P N p with
    | none=>rw[hp]at hs2;cases(stuck_noS cx cl fuel x md).symm.trans hs2
    | some p'=>rw[hp]at hs2;exact ihp hp h hr hm hs2
   | false=>
    have hs2:zS cx cl fuel (mT (comp E.P N q)) x md = .ok out y md':=hs;cases hq:comp E.P N q with
    | none=>rw[hq]at hs2;cases(stuck_noS cx cl fuel x md).symm.trans hs2
    | some q'=>rw[hq]at hs2;exact ihq hq h hr hm hs2
  ·cases hs
 | block id p ih=>
  intro ac hc fuel μ a w x md c0 k out y md' h hr hm hs;simp only[comp,aB,aA,aC]at hc;obtain⟨p',hp,rfl⟩:=hc;simp only[zS]at hs;exact blockS_did (r:=zS cx cl fuel p' x md) hs fun o z m hz=>ih hp h hr hm hz
 | scope p ih=>
  intro ac hc fuel μ a w x md c0 k out y md' h hr hm hs;have hc':=hc;simp only[comp,aB,aA,aC]at hc;obtain⟨p',hp,rfl⟩:=hc;simp only[zS]at hs;cases hl:pJ p' with
  | nil=>
   rw[hl]at hs;simp only[lV]at hs;refine oK.of_steps (.one tD) ?_;have hD:=ih hp (k:=.inScope p::k) h hr hm hs;by_cases ho:out = .normal
   ·subst ho;refine hD.bind fun a' w' μ' u' g1 g2 g3 g4=>?_
    exact⟨a',w',μ',.normal,u',g1,Fr.refl _ _ _ _,rfl,rfl,g4,.one pL⟩
   ·refine hD.pass (fun i=>rE (fun l _=>?_) k) ho
    cases hf:findLabel p l with
    | none=>rfl
    | some z=>
     have:=(lab_of p hp hf).1;rw[hl]at this;cases this
  | cons n ns=>
   rw[hl]at hs hc';cases hrr:iO p' n with
   | none=>
    simp only[lV,hrr]at hs;cases(stuck_noS cx cl fuel x md).symm.trans hs
   | some r=>
    simp only[lV,hrr]at hs hc';simp only[zS]at hs;exact fall _ hc' (fuel:=fuel) h hr hm hs
 | skip=>
  intro ac hc fuel μ a w x md c0 k out y md' h hr hm hs;have hc':=hc;simp only[comp,aC]at hc;subst hc;simp only[zS]at hs;exact fall _ hc' (fuel:=fuel) h hr hm hs
 | label l=>
  intro ac hc fuel μ a w x md c0 k out y md' h hr hm hs;have hc':=hc;simp only[comp,aC]at hc;subst hc;have h1:zC (.block (2*l+1) .skip) cx cl fuel x = .ok .normal x:=rfl;have h2:zS cx cl fuel (.block (2*l+1) .skip) x md = .ok .normal x md:=by
   simp only[zS];rfl
  rw[h2]at hs;cases hs;exact(pV H _ hc' h (by rw[hr];exact hro) h1).toS h hm
 | loop p ih=>
  intro ac hc fuel μ a w x md c0 k out y md' h hr hm hs;have hc':=hc;simp only[comp,aB,aA,aC]at hc;obtain⟨p',hp,rfl⟩:=hc;simp only[zS]at hs;exact fall _ hc' (fuel:=fuel) h hr hm hs
 | exit id=>
  intro ac hc fuel μ a w x md c0 k out y md' h hr hm hs;have hc':=hc;simp only[comp,aC]at hc;subst hc;simp only[zS]at hs;exact fall _ hc' (fuel:=fuel) h hr hm hs
 | ret=>
  intro ac hc fuel μ a w x md c0 k out y md' h hr hm hs;have hc':=hc;simp only[comp,aC]at hc;subst hc;simp only[zS]at hs;exact fall _ hc' (fuel:=fuel) h hr hm hs
 | rangeFunc f ps p q ihp ihq=>
  intro ac hc fuel μ a w x md c0 k out y md' h hr hm hs;have hc':=hc;simp only[comp,aB,aA]at hc;obtain⟨g,hg,p',hp,q',hq,hc⟩:=hc;cases hps:(ps.toList.all fun p=>Nat.blt p N)<;>rw[hps]at hc
  ·cases hc
  ·simp only[aS,aC]at hc;subst hc;simp only[zS]at hs;exact fall _ hc' (fuel:=fuel) h hr hm hs
 | goto l=>
  intro ac hc fuel μ a w x md c0 k out y md' h hr hm hs;have hc':=hc;simp only[comp,aC]at hc;subst hc;simp only[zS]at hs;exact fall _ hc' (fuel:=fuel) h hr hm hs
 | refuse s=>intro ac hc;simp[comp]at hc
end
def afterD(o:FO)(m:dS):dS:=match o with
 | .ret _=>settle m
 | .pan ch=>raised m ch
def DefOK(E:Env)(df:Nat→List D→dS→St→Nat→DR):Prop:=
 ∀{M0:Nat→Prop} {w0:World} {μ:Mu} {w:World} {s:St} {c f:Nat} {args:List D} {vals:List Value} {m:dS} {o:FO} {m':dS} {s':St} {c':Nat},
  kU E M0 w0 μ w s c→aX (Mm M0 μ) w μ args vals→df f args m s c = .ok o m' s' c'→callable E.P f=true ∧
  ∀(c0:Frame) (cs:List Frame),mR (Mm M0 μ) w μ m c0.mode→∃w' μ' u',Steps E.P (lone (Frame.enter E.P f vals.toArray .deferred) (c0::cs) w) (lone { c0 with mode:=u' } cs w')∧kU E M0 w0 μ' w' s' c'∧Fr c s μ w c' s' μ' w' ∧
   mR (Mm M0 μ') w' μ' (afterD o m') u'
structure TOK (E:Env) (cx:Cx):Prop where
 body:∀f A,cx.T f=some A→callable E.P f=true∧∃fn,E.P.funcs[f]?=some fn∧compF E.P fn=some A
theorem rM{P:Program}{fn:Func}{A:AF}(h:compF P fn=some A):∃c,fn.body=some c∧comp P fn.ntmps c=some A.body∧fn.results.toList.mapM (oQ P)=some A.res:=by
 simp only[compF,aB,aA]at h;obtain⟨c,h1,b,h2,r,h3,h⟩:=h;cases hc:Nat.beq fn.nfree 0<;>rw[hc]at h<;>simp only[aS,cF,aC]at h<;>subst h<;>exact⟨c,h1,h2,h3⟩
section
variable {E:Env} {cx:Cx} {M0:Nat→Prop} {w0:World} {N:Nat} {μ:Mu} {M:Nat→Prop} {a:Act} {w:World} {x:AS} {cs:List Frame}
theorem Rel.kill(h:Rel E M0 w0 N μ a w x)(nm:Nat)(l:Loc)(b:Nat){w':World}(hl:μ nm=some l)(hlb:l.blk=some b)(hlive:(sget x.s nm).isSome=true)
  (hsz:w'.heap.size=w.heap.size) (hheap:∀k,k≠b→w'.heap[k]?=w.heap[k]?) (he:uP w w':=by exact⟨rfl,rfl⟩) :
  Ext (Mm M0 μ) w (Mm M0 μ) w'∧Rel E M0 w0 N μ a w' ⟨x.t,sdel x.s nm,x.c,x.d,x.r⟩∧Fr x.c x.s μ w x.c (sdel x.s nm) μ w':=by
 have hM:=h.isM hl hlb;have hx:Ext (Mm M0 μ) w (Mm M0 μ) w':=⟨by omega,fun k _ hk=>hheap k fun e=>hk (e▸hM),fun _ _ hm=>hm⟩
 have hi:∀n bk,sget (sdel x.s nm) n=some bk→n≠nm∧sget x.s n=some bk:=fun n bk hn=>by
  rw[iH]at hn;by_cases e:n=nm
  ·rw[aH e]at hn;cases hn
  ·rw[aD e]at hn;exact⟨e,hn⟩
 refine⟨hx,{h with
  size:=by have:=h.size;omega
  old:=fun k hk=>by rw[hheap k fun e=>by have:=h.own nm l b hl hlb;omega];exact h.old k hk
  env:=⟨he.1.trans h.env.1,he.2.trans h.env.2⟩
  defers:=iL.mono hx (fV.refl _) h.defers
  tm:=fun n=>aP.mono hx _ _ (fV.refl _) (h.tm n)
  own:=fun nm l b h1 h2=>by rw[hsz];exact h.own nm l b h1 h2
  lt:=h.lt
  inj:=fun n m l l' b s1 s2=>by
   obtain⟨b1,hb1⟩:=eA.1 s1;obtain⟨b2,hb2⟩:=eA.1 s2;exact h.inj n m l l' b (by rw[(hi n b1 hb1).2];rfl) (by rw[(hi m b2 hb2).2];rfl)
  st:=fun k bk lk hlk hk=>by
   obtain⟨hkn,hk⟩:=hi k bk hk;refine rR.mono hx (fV.refl _) (fun l' b' hl' hlb'=>⟨hheap b' fun e=>?_,id⟩) (h.st k bk lk hlk hk)
   subst e;exact hkn (h.inj k nm l' l b' (by rw[hk];rfl) hlive hl' hl hlb' hlb) },
  ⟨by omega,fun k hk hn=>hheap k fun e=>hn (e▸⟨nm,l,hlive,hl,hlb⟩),fun k _ ⟨n,l,h1,h2,h3⟩=>by
   obtain⟨b1,hb1⟩:=eA.1 h1;exact⟨n,l,by rw[(hi n b1 hb1).2];rfl,h2,h3⟩,fV.refl μ,aJ _,fun _ _ h=>h,nonew⟩⟩
theorem step_mark{P:Program}{fr:Frame}{w w':World}{blk:Nat}{args:Array Value}{ds calls:List Deferred}(hm:fr.mode≠.run)(hd:fr.defers={ target:=.collected blk,args:=args }::ds)(hr:(Instr.takeDeferred blk).run P w = .ok calls w'):
  Go.step P (lone fr cs w) = .next (lone { fr with defers:=calls++ds } cs w'):=by
 refine cV ?_;cases hmode:fr.mode with
 | run=>exact absurd hmode hm
 | returning=>simp[stepG,unwind,hmode,hd,hr]
 | panicking chain=>simp[stepG,unwind,hmode,hd,hr]
theorem ds_did{df:Nat→List D→dS→St→Nat→DR}(hdf:DefOK E df):∀(d:List (D×List D)) {m:dS} {s:St} {c:Nat} {m':dS} {s':St} {c':Nat} {ds:List Deferred} {fr:Frame} {μ:Mu} {w:World},
  zDs df d m s c = .ok m' s' c'→kU E M0 w0 μ w s c→iL (Mm M0 μ) w μ d ds→mR (Mm M0 μ) w μ m fr.mode→fr.defers=ds →
  ∃w' μ' u',Steps E.P (lone fr cs w) (lone { fr with defers:=[],mode:=u' } cs w')∧kU E M0 w0 μ' w' s' c'∧Fr c s μ w c' s' μ' w'∧mR (Mm M0 μ') w' μ' m' u':=by
 intro d
 induction d with
 | nil=>
  intro m s c m' s' c' ds fr μ w hs h hd hm hf;simp only[zDs,DS.ok.injEq]at hs;obtain⟨rfl,rfl,rfl⟩:=hs;simp only[iL]at hd;subst hd;refine⟨w,μ,fr.mode,?_,h,Fr.refl _ _ _ _,hm⟩;have:({ fr with defers:=[],mode:=fr.mode }:Frame)=fr:=by rw[←hf]
  rw[this];exact .refl _ _
 | cons p r ih=>
  intro m s c m' s' c' ds fr μ w hs h hd hm hf;obtain⟨g,args⟩:=p;cases g
  case fn fv fs cap=>
   cases fv with
   | func f=>
    simp only[zDs]at hs;unfold iL at hd;obtain⟨fn,first,capv,av,r',h1,h2,rfl,h3⟩:=hd;simp only[aP]at h1;obtain⟨va,vb,he,e1,e2⟩:=h1;cases he;cases hz:df f (fs++args++cap) m s c with
    | no=>rw[hz]at hs;cases hs
    | ok o m1 s1 c1=>
     rw[hz]at hs;have hargs:aX (Mm M0 μ) w μ (fs++args++cap) ((first++av)++capv).toList:=by
      simp only[Array.toList_append];exact(e1.append h2).append e2
     obtain⟨hcal,hrun⟩:=hdf h hargs hz;have hstep:=step_defer (P:=E.P) (fr:=fr) (cs:=cs) (w:=w) hm.notRun hf rfl (show(invoke (.fn (.func f) capv) (first++av)).run E.P w = .ok (.enter f ((first++av)++capv)) w by
      simp only[invoke];exact wW hcal _ _)
     obtain⟨w1,μ1,u1,hst,hS,hfr,hmr⟩:=hrun { fr with defers:=r' } cs hm;rw[Array.toArray_toList]at hst;have hx:=kU.ext h hS hfr;have rest:∀m2,mR (Mm M0 μ1) w1 μ1 m2 u1→zDs df r m2 s1 c1 = .ok m' s' c'→∃w' μ' u',Steps E.P (lone fr cs w) (lone { fr with defers:=[],mode:=u' } cs w')∧kU E M0 w0 μ' w' s' c'∧Fr c s μ w c' s' μ' w'∧mR (Mm M0 μ') w' μ' m' u':=by
      intro m2 hm2 hz2;obtain⟨w2,μ2,u2,k1,k2,k3,k4⟩:=ih (fr:={ fr with defers:=r',mode:=u1 }) hz2 hS (h3.mono hx hfr.mu) hm2 rfl;exact⟨w2,μ2,u2,.head hstep (fB hst k1),k2,hfr.trans k3,k4⟩
     cases o with
     | ret v=>exact rest _ hmr hs
     | pan ch=>exact rest _ hmr hs
   | _=>simp only[zDs]at hs;cases hs
  case it nm=>
   cases args with
   | cons _ _=>simp only[zDs]at hs;cases hs
   | nil=>
    simp only[zDs]at hs;split at hs
    ·rename_i hg;simp only[iL]at hd;obtain⟨l,b,r',h1,h2,rfl,h3⟩:=hd;obtain⟨l',b',k1,k2,k3,k4⟩:=h.st nm _ l h1 hg;rw[h1]at k1;cases k1;rw[h2]at k2;cases k2
     let w1:World:={ w with heap:=w.heap.setIfInBounds b (.deferred none) }
     have hrun:(Instr.takeDeferred b).run E.P w = .ok [] w1:=by
      simp[Instr.takeDeferred,getObj,setObj,Sem.run,k4,w1]
     obtain⟨hx,hR,hfr⟩:=Rel.kill h nm l b (w':=w1) h1 h2 (by show(sget s nm).isSome=true;rw[hg];rfl) (by simp[w1]) (fun q hq=>by simp only[w1];rw[dA (fun e=>hq e.symm)])
     have hstep:=step_mark (P:=E.P) (fr:=fr) (cs:=cs) hm.notRun hf hrun;obtain⟨w2,μ2,u2,g1,g2,g3,g4⟩:=ih (fr:={ fr with defers:=[]++r' }) hs hR (h3.mono hx (fV.refl _)) (hm.mono hx (fV.refl _)) rfl;exact⟨w2,μ2,u2,.head hstep g1,g2,hfr.trans g3,g4⟩
    ·cases hs
  all_goals (simp only[zDs]at hs;cases hs)
theorem enter_fat{P:Program}{f:Nat}{fn:Func}{c:Code}(hf:P.funcs[f]?=some fn)(hb:fn.body=some c)(args:Array Value)(kd:CallKind):
  Frame.enter P f args kd=fat { (default:Frame) with fn:=f,kind:=kd } { tmps:=args++Array.replicate (fn.ntmps-args.size) undef,defers:=[] } [.code c]:=by
 simp[Frame.enter,fat,hf,hb];rfl
theorem zdef_ok(hT:TOK E cx){p:FD}(H:Ctx E cx p.fn)(k:Nat):DefOK E (zdef cx k p):=by
 intro M0 w0 μ w s c f args vals m o m' s' c' h hv hs;unfold zdef at hs;split at hs
 ·rename_i A hA;obtain⟨hcal,fn,hfn,hcomp⟩:=hT.body f A hA;obtain⟨cd,hbody,hc,hres⟩:=rM hcomp;cases hlen:Nat.beq args.length A.np<;>rw[hlen]at hs
  ·cases hs
  simp only[aS]at hs;refine⟨hcal,fun c0 cs hm=>?_⟩
  let b:Frame:={ (default:Frame) with fn:=f,kind:=.deferred }
  have hst:=start_rel (N:=fn.ntmps) h hv;rw[enter_fat hfn hbody];cases hz:zS cx p.fn k A.body (start args s c) m with
  | no=>rw[hz]at hs;cases hs
  | ok out x md=>
   rw[hz]at hs;obtain⟨a',w',μ',ou,u',r1,r2,r3,r4,r5,r6⟩:=codeS_did (b:=b) (cs:=cs) (k:=[]) H rfl rfl cd hc hst rfl hm hz;have fin:∀d v todo,x.d=[]→results A x=some d→Steps E.P (lone (fat b { tmps:=vals.toArray++Array.replicate (fn.ntmps-vals.toArray.size) undef,defers:=[] } [.code cd]) (c0::cs) w) (lone { fat b a' todo with mode:=.returning } ({ c0 with mode:=u' }::cs) w') →
     (Go.results fn a'.tmps).run E.P w' = .ok v w' →
     ∃w'' μ'' u'',Steps E.P (lone (fat b { tmps:=vals.toArray++Array.replicate (fn.ntmps-vals.toArray.size) undef,defers:=[] } [.code cd]) (c0::cs) w) (lone { c0 with mode:=u'' } cs w'')∧kU E M0 w0 μ'' w'' x.s x.c∧Fr c s μ w x.c x.s μ'' w''∧mR (Mm M0 μ'') w'' μ'' (settle md) u'':=by
    intro d v todo hd hr hsteps hrun;have hdf:a'.defers=[]:=by have:=r1.defers;rw[hd]at this;simpa only[iL]using this
    refine⟨w',μ',Go.settle u',fB hsteps (.one ?_),r1.toS,r2,r5.settle⟩;exact step_going_returned (P:=E.P) (fr:={ fat b a' todo with mode:=.returning }) (c:={ c0 with mode:=u' }) (cs:=cs) (v:=v) rfl ⟨rfl,hdf,fn,hfn,hrun⟩
   have norm:(out = .normal∨out = .ret)→zdone A (.ret .un) x md = .ok o m' s' c'→∃w'' μ'' u'',Steps E.P (lone (fat b { tmps:=vals.toArray++Array.replicate (fn.ntmps-vals.toArray.size) undef,defers:=[] } [.code cd]) (c0::cs) w) (lone { c0 with mode:=u'' } cs w'')∧kU E M0 w0 μ'' w'' s' c'∧Fr c s μ w c' s' μ'' w'' ∧
     mR (Mm M0 μ'') w'' μ'' (afterD o m') u'':=by
    intro ho hz2;unfold zdone at hz2;split at hz2
    ·rename_i ch hd heq;cases heq
    ·rename_i hd _;cases hr:results A x with
     | none=>rw[hr]at hz2;cases hz2
     | some d=>
      rw[hr]at hz2;cases hz2;obtain⟨v,hrun,_⟩:=results_ok r1 hres hr;rcases ho with rfl|rfl
      ·cases r4;exact fin d v [] hd hr (fB r6 (.one (fstep_end rfl))) hrun
      ·cases r4;obtain⟨todo,t1⟩:=r6;exact fin d v _ hd hr (fB t1 (.one (fstep_ret rfl))) hrun
    ·cases hz2
   cases out with
   | normal=>exact norm (.inl rfl) hs
   | ret=>exact norm (.inr rfl) hs
   | exit i=>cases hs
   | pan ch=>
    have hs':zdone A (.pan ch) x md = .ok o m' s' c':=hs;unfold zdone at hs';split at hs'
    ·rename_i ch' hd heq;cases heq;cases hs';obtain⟨chain,rfl,hch⟩:=r4;obtain⟨todo,_,t1⟩:=r6;have hdf:a'.defers=[]:=by have:=r1.defers;rw[hd]at this;simpa only[iL]using this
     refine⟨w',μ',Go.raised u' chain,fB t1 (.one ?_),r1.toS,r2,r5.raised hch⟩;exact step_going_panicked (P:=E.P) (fr:={ fat b a' todo with mode:=.panicking chain }) (c:={ c0 with mode:=u' }) (cs:=cs) ⟨rfl,hdf,fn,hfn⟩
    ·rename_i heq;cases heq
    ·cases hs'
 ·cases hs
theorem body_one{p:FD}(hdf:DefOK E p.df){s:St}{c f:Nat}{args:List D}{vals:List Value}{o:FO}{s':St}{c':Nat}{A:AF}{fn:Func}{cd:Code}(hfn:E.P.funcs[f]?=some fn)
  (hres:fn.results.toList.mapM (oQ E.P)=some A.res) {b:Frame} (hb:b={ (default:Frame) with fn:=f,kind:=.normal }) {out:Out} {x:AS}
  (hD:Did E M0 w0 fn.ntmps μ w (start args s c) (lone (fat b { tmps:=vals.toArray++Array.replicate (fn.ntmps-vals.toArray.size) undef,defers:=[] } [.code cd]) cs w) b [] cs out x)
  (hs:zbody p.df A (.ok out x) = .ok o s' c') :
  ∃e w'' fr,tT E M0 w0 μ w c s o s' c' e w''∧Comes E.P (lone (fat b { tmps:=vals.toArray++Array.replicate (fn.ntmps-vals.toArray.size) undef,defers:=[] } [.code cd]) cs w) (lone fr cs w'') e∧fr.fn=f∧fr.leaving E.P w'' e:=by
 subst hb
 let b:Frame:={ (default:Frame) with fn:=f,kind:=.normal }
 obtain⟨a',w',μ',ou,r1,r2,r3,r4,r5⟩:=hD;have fin:∀(m:dS) (u:FrameMode) (todo:List Item),mR (Mm M0 μ') w' μ' m u→Steps E.P (lone (fat b { tmps:=vals.toArray++Array.replicate (fn.ntmps-vals.toArray.size) undef,defers:=[] } [.code cd]) cs w) (lone { fat b a' todo with mode:=u } cs w') →
   oX p.df A m x = .ok o s' c'→∃e w'' fr,tT E M0 w0 μ w c s o s' c' e w''∧Comes E.P (lone (fat b { tmps:=vals.toArray++Array.replicate (fn.ntmps-vals.toArray.size) undef,defers:=[] } [.code cd]) cs w) (lone fr cs w'') e∧fr.fn=f∧fr.leaving E.P w'' e:=by
  intro m u todo hm hsteps he;unfold oX at he;cases hd:zDs p.df x.d m x.s x.c with
  | no=>rw[hd]at he;cases he
  | ok m1 s1 c1=>
   rw[hd]at he;obtain⟨w2,μ2,u2,k1,k2,k3,k4⟩:=ds_did (cs:=cs) hdf x.d (fr:={ fat b a' todo with mode:=u }) hd r1.toS r1.defers hm rfl;cases m1 with
   | none=>
    simp only at he;have hu:u2 = .returning:=k4;subst hu;cases hr:results A ⟨x.t,s1,c1,x.d,x.r⟩ with
    | none=>rw[hr]at he;cases he
    | some d=>
     rw[hr]at he;cases he;have hR:=r1.carry k2 k3;obtain⟨v,hrun,hvr⟩:=results_ok hR hres hr;exact⟨.returned v,w2,_,⟨μ2,k2,r2.trans k3,v,rfl,hvr⟩,fB hsteps k1,rfl,rfl,rfl,rfl,fn,hfn,hrun⟩
   | some ch=>
    simp only at he;cases he;obtain⟨chain,hu,hch⟩:=k4;subst hu;exact⟨.panicked chain,w2,_,⟨μ2,k2,r2.trans k3,chain,rfl,hch⟩,fB hsteps k1,rfl,rfl,rfl,fn,hfn⟩
 cases out with
 | normal=>
  cases r4;exact fin none .returning [] rfl (fB r5 (.one (fstep_end rfl))) hs
 | ret=>
  cases r4;obtain⟨todo,t1⟩:=r5;exact fin none .returning _ rfl (fB t1 (.one (fstep_ret rfl))) hs
 | exit i=>cases hs
 | pan ch=>
  obtain⟨chain,rfl,hch⟩:=r4;obtain⟨todo,_,t1⟩:=r5;exact fin (some ch) (.panicking chain) todo ⟨chain,rfl,hch⟩ t1 hs
theorem vU(hT:TOK E cx){p:FD}(H:Ctx E cx p.fn)(hdf:DefOK E p.df)(k:Nat){s:St}{c f:Nat}{args:List D}{vals:List Value}{o:FO}{s':St}{c':Nat}(h:kU E M0 w0 μ w s c)(hv:aX (Mm M0 μ) w μ args vals)
  (hs:zcall cx k p f args s c = .ok o s' c'):callable E.P f=true∧Calls E.P f vals.toArray w (tT E M0 w0 μ w c s o s' c'):=by
 unfold zcall at hs;split at hs
 ·rename_i A hA;obtain⟨hcal,fn,hfn,hcomp⟩:=hT.body f A hA;obtain⟨cd,hbody,hc,hres⟩:=rM hcomp;cases hlen:Nat.beq args.length A.np<;>rw[hlen]at hs
  ·cases hs
  simp only[aS]at hs;refine⟨hcal,fun cs=>?_⟩
  have hst:=start_rel (N:=fn.ntmps) h hv;rw[enter_fat hfn hbody];cases hz:zC A.body cx p.fn k (start args s c) with
  | no=>rw[hz]at hs;cases hs
  | ok out x=>
   rw[hz]at hs;exact body_one hdf hfn hres rfl (pV (b:={ (default:Frame) with fn:=f,kind:=.normal }) (cs:=cs) (k:=[]) H cd hc hst rfl hz) hs
 ·cases hs
end
theorem putAll_rel{M:Nat→Prop}{w:World}{μ:Mu}{N:Nat}:∀{ps:List Nat} {args:List D} {vals:List Value} {T:Array Value} {t:Tm},(ps.all fun p=>Nat.blt p N)=true→N≤T.size→aX M w μ args vals→args.length=ps.length →
  (∀n,aP M w μ (tget t n) (T.getD n undef))→N≤((ps.zip vals).foldl (fun(T:Array Value) p=>T.setIfInBounds p.1 p.2) T).size∧∀n,aP M w μ (tget (oC ps args t) n) (((ps.zip vals).foldl (fun(T:Array Value) p=>T.setIfInBounds p.1 p.2) T).getD n undef)
 | [],args,vals,T,t,_,hN,_,_,ht=>by
  simp only[oC,List.zip_nil_left,List.foldl_nil];exact⟨hN,ht⟩
 | p::ps,[],vals,T,t,_,_,_,hl,_=>by simp at hl
 | p::ps,d::ds,vals,T,t,hp,hN,hv,hl,ht=>by
  simp only[aX]at hv;obtain⟨v,vs,rfl,h1,h2⟩:=hv;simp only[List.all_cons,bE]at hp;have hlt:p<T.size:=bY (by simpa[Nat.blt_eq]using hp.1) hN
  simp only[oC,List.zip_cons_cons,List.foldl_cons];refine putAll_rel (T:=T.setIfInBounds p v) (t:=tput t p d) hp.2 (by simpa using hN) h2 (by simpa using hl) fun n=>?_
  rw[kI,eJ];by_cases hn:n=p
  ·subst hn;rw[aH rfl,Array.getElem?_setIfInBounds_self_of_lt hlt];exact h1
  ·rw[aD hn,dA (fun e=>hn e.symm),←eJ]
   exact ht n
section
variable {P:Program} {b:Frame} {a:Act} {k:List Item} {cs:List Frame} {w w':World}
theorem step_begin{l:Nat}(hr:b.roundOf=some l)(h:(Instr.beginRound l).run P w = .ok () w'):Go.step P (lone (fat b a (.beginRound::k)) cs w) = .next (lone (fat b a k) cs w'):=by
 refine cV ?_;have hs:(do (fat b a (.beginRound::k)).roundOf.elim (stuck "beginRound: no round") Instr.beginRound;pure .skip:Sem Next).run P w = .ok .skip w':=by
  have:(fat b a (.beginRound::k)).roundOf=some l:=hr;rw[this];simp[h]
 have:=rO (fr:=fat b a (.beginRound::k)) (cs:=cs) hs;have hf:(fat b a (.beginRound::k)).finish undef=fat b a k:=rfl;rw[hf]at this;rw[←this];simp[stepG,stepG.exec,fat]
theorem run_beginRound{l:Nat}{lo:Loop}(h:w.heap[l]?=some (.loop lo))(hs:lo.state = .ready):
  (Instr.beginRound l).run P w = .ok () { w with heap:=w.heap.setIfInBounds l (.loop { lo with state:=.busy }) }:=by
 simp[Instr.beginRound,Instr.getLoop,getObj,setObj,Sem.run,h,hs]
theorem run_endRound{l:Nat}{lo:Loop}(h:w.heap[l]?=some (.loop lo))(j:Option Code):
  (Instr.endRound l j).run P w = .ok (.bool j.isNone) { w with heap:=w.heap.setIfInBounds l (.loop { lo with state:=if j.isNone then .ready else .done,pending:=j }) }:=by
 simp[Instr.endRound,Instr.getLoop,getObj,setObj,Sem.run,h]
theorem leave_end{l:Nat}{c0:Frame}{v:Value}(hr:b.roundOf=some l)(hk:b.kind = .normal)(h:(Instr.endRound l none).run P w = .ok v w'):
  Go.step P (lone (fat b a []) (c0::cs) w) = .next (lone (c0.finish v) cs w'):=
 cV (by simp[stepG,stepG.exec,fat,hr,h,doReturn,hk])
theorem leave_ret{l:Nat}{c0:Frame}{v:Value}{todo:List Item}(hr:b.roundOf=some l)(hk:b.kind = .normal)(h:(Instr.endRound l (some .ret)).run P w = .ok v w'):
  Go.step P (lone (fat b a (.code .ret::todo)) (c0::cs) w) = .next (lone (c0.finish v) cs w'):=
 cV (by simp[stepG,stepG.exec,fat,hr,h,doReturn,hk])
theorem leave_exit{l i:Nat}{c0:Frame}{v:Value}{todo:List Item}(hr:b.roundOf=some l)(hk:b.kind = .normal)(he:iA i todo=none)(h:(Instr.endRound l (some (tA i))).run P w = .ok v w'):
  Go.step P (lone (fat b a (.code (tA i)::todo)) (c0::cs) w) = .next (lone (c0.finish v) cs w'):=by
 unfold iA at he;unfold tA at h ⊢;cases hp:Nat.beq (i % 2) 0<;>rw[hp]at he h
 ·simp only[cF]at he h ⊢;exact cV (by simp[stepG,stepG.exec,fat,hr,h,doReturn,hk,he])
 ·simp only[aS]at he h ⊢;exact cV (by simp[stepG,stepG.exec,fat,hr,h,doReturn,hk,he])
theorem uK{c0:Frame}{todo:List Item}{chain:List PanicEntry}(hd:a.defers=[])(ho:Item.own todo=true):
  Go.step P (lone { fat b a todo with mode:=.panicking chain } (c0::cs) w) = .next (lone (c0.raise chain) cs w):=by
 refine cV ?_;have hc:Frame.catches P { fat b a todo with mode:=.panicking chain }=false:=by
  unfold Frame.catches;simp only[fat];split
  ·cases ho
  ·rfl
 simp only[fat,hd]at hc;simp[stepG,unwind,fat,hd,hc]
end
section
variable {E:Env} {cx:Cx} {M0:Nat→Prop} {w0:World} {μ:Mu} {M:Nat→Prop} {w:World}
theorem zround_ok{cl:CL}(H:Ctx E cx cl)(k:Nat){s:St}{c nm:Nat}{args:List D}{vals:List Value}{o:FO}{s':St}{c':Nat}(h:kU E M0 w0 μ w s c)(hv:aX (Mm M0 μ) w μ args vals)
  (hs:zRound cx cl k nm args s c = .ok o s' c') {loc:Loc} {l:Nat} (hμ:μ nm=some loc) (hl:loc.blk=some l):nX E.P (Instr.yield l vals.toArray) w (tT E M0 w0 μ w c s o s' c'):=by
 unfold zRound at hs;split at hs
 ·rename_i st0 pd0 t ps a' b' hg;cases hlen:Nat.beq args.length ps.length<;>rw[hlen]at hs
  ·cases hs
  have hlen':=aR hlen;simp only[aS]at hs;obtain⟨loc',bk,lo,N,g1,g2,g3,g4,g5,g6,g7,g8,g9,g10,g11,g12⟩:=h.st nm _ loc hμ hg;rw[hμ]at g1;cases g1;rw[hl]at g2;cases g2
  let T:Array Value:=(ps.zip vals).foldl (fun(T:Array Value) p=>T.setIfInBounds p.1 p.2) lo.tmps
  have hvl:vals.length=args.length:=hv.length;have hyield:(Instr.yield l vals.toArray).run E.P w = .ok (.round l lo.fn T lo.assign lo.body) w:=by
   have hps:lo.params.size=ps.length:=by rw[←g7];simp
   have hsz:vals.toArray.size=lo.params.size:=by rw[hps,←hlen',←hvl];simp
   have hT:(lo.params.zip vals.toArray).foldl (fun tmps (t,a)=>tmps.setIfInBounds t a) lo.tmps=T:=by
    rw[←Array.foldl_toList,Array.toList_zip,g7]
   have hne:¬(vals.toArray.size≠lo.params.size):=fun e=>e hsz
   have hz:(lo.params.zip vals.toArray).size=lo.params.size:=by rw[Array.size_zip,hsz];simp
   simp[Instr.yield,Instr.getLoop,getObj,Sem.run,g4,hsz];rw[←hz];exact hT
  obtain⟨hTs,hTr⟩:=putAll_rel (T:=lo.tmps) (t:=t) g8 g11 hv hlen' g12
  let b:Frame:={ (default:Frame) with fn:=lo.fn,kind:=.normal,roundOf:=some l }
  let a0:Act:=⟨T,[]⟩
  have hR0:Rel E M0 w0 N μ a0 w ⟨oC ps args t,s,c,[],some nm⟩:=h.frame hTs hTr (by simp only[iL];rfl)
  have hro0:gF b (some nm) μ:=⟨loc,l,hμ,hl,rfl⟩;refine⟨_,w,_,hyield,.round _ _ _ _ _,fun c0 cs=>?_⟩
  have hfr:Frame.round l lo.fn T lo.assign lo.body .normal=fat b a0 [.code lo.assign,.beginRound,.code lo.body]:=rfl;rw[hfr];have pan:∀(m:Machine) (kk:List Item) (ch:Ch) (z:AS) (μ1:Mu) (w1:World) (x1:AS),Did E M0 w0 N μ1 w1 x1 m b kk (c0::cs) (.pan ch) z→Fr c s μ w x1.c x1.s μ1 w1→z.d=[]→FR.ok (.pan ch) z.s z.c = .ok o s' c' →
    Steps E.P (lone (fat b a0 [.code lo.assign,.beginRound,.code lo.body]) (c0::cs) w) m→pY E.P (lone (fat b a0 [.code lo.assign,.beginRound,.code lo.body]) (c0::cs) w) c0 cs (tT E M0 w0 μ w c s o s' c'):=by
   intro m kk ch z μ1 w1 x1 hD hf hd he hst;cases he;obtain⟨a2,w2,μ2,ou,r1,r2,r3,r4,r5⟩:=hD;obtain⟨chain,rfl,hch⟩:=r4;obtain⟨todo,t0,t1⟩:=r5;have hdf:a2.defers=[]:=by have:=r1.defers;rw[hd]at this;simpa only[iL]using this
   exact⟨.panicked chain,w2,⟨μ2,r1.toS,hf.trans r2,chain,rfl,hch⟩,fB hst (fB t1 (.one (uK hdf t0)))⟩
  cases hz:zC a' cx cl k ⟨oC ps args t,s,c,[],some nm⟩ with
  | no=>rw[hz]at hs;cases hs
  | ok o1 y=>
   rw[hz]at hs;have hD:=pV (b:=b) (cs:=c0::cs) (k:=[.beginRound,.code lo.body]) H lo.assign g9 hR0 hro0 hz;cases o1 with
   | exit i=>cases hs
   | ret=>cases hs
   | pan ch=>
    simp only at hs;split at hs
    ·rename_i hd;exact pan _ _ ch y μ w _ hD (Fr.refl _ _ _ _) hd hs (.refl _ _)
    ·cases hs
   | normal=>
    simp only at hs;obtain⟨a1,w1,μ1,ou,r1,r2,r3,r4,r5⟩:=hD;cases r4;split at hs
    ·rename_i pend t' ps' a2 b2 hg1;have hμ1:μ1 nm=some loc:=r2.mu _ _ hμ;obtain⟨loc',bk,lo1,N1,q1,q2,q3,q4,q5,q6,q7,q8,q9,q10,q11,q12⟩:=r1.st nm _ loc hμ1 hg1;rw[hμ1]at q1;cases q1;rw[hl]at q2;cases q2
     let w2:World:={ w1 with heap:=w1.heap.setIfInBounds l (.loop { lo1 with state:=.busy }) }
     have hlt1:l<w1.heap.size:=(r1.own nm loc l hμ1 hl).2;obtain⟨hx2,hR2,hf2⟩:=r1.write nm (.lp .busy pend t' ps' a2 b2) loc l (w':=w2) (x':=⟨y.t,sset y.s nm (.lp .busy pend t' ps' a2 b2),y.c,y.d,y.r⟩) hμ1 hl (by rw[hg1];rfl) (by simp[w2])
      (fun q hq=>by simp only[w2];rw[dA (fun e=>hq e.symm)]) (fun n=>rfl) (fun n=>by rw[aN]) rfl rfl
      (fun hx=>⟨loc,l,{ lo1 with state:=.busy },N1,hμ1,hl,q3,by simp[w2,hlt1],rfl,q6,q7,q8,q9,q10,q11,fun n=>aP.mono hx _ _ (fV.refl _) (q12 n)⟩)
     have hbeg:=step_begin (P:=E.P) (b:=b) (a:=a1) (k:=[.code lo.body]) (cs:=c0::cs) (w:=w1) (w':=w2) rfl (run_beginRound q4 q5);have hto:Steps E.P (lone (fat b a0 [.code lo.assign,.beginRound,.code lo.body]) (c0::cs) w) (lone (fat b a1 [.code lo.body]) (c0::cs) w2):=fB r5 (.one hbeg);have hro2:gF b y.r μ1:=by rw[r3];exact hro0.mono r2.mu
     cases hz2:zC b' cx cl k ⟨y.t,sset y.s nm (.lp .busy pend t' ps' a2 b2),y.c,y.d,y.r⟩ with
     | no=>rw[hz2]at hs;cases hs
     | ok o2 z=>
      rw[hz2]at hs;have hD2:=pV (b:=b) (cs:=c0::cs) (k:=[]) H lo.body g10 hR2 hro2 hz2;have done:∀(j:Option (Option Nat)),(∃ou:Ou,OuRel (Mm M0 μ) w μ o2 ou)→(match o2 with | .normal=>j=none | .exit i=>j=some (some i) | .ret=>j=some none | .pan _=>False) →
        (match sget z.s nm with
         | some (.lp _ _ t' ps' a' b')=>FR.ok (.ret (.bool j.isNone)) (sset z.s nm (.lp (bif j.isNone then .ready else .done) j t' ps' a' b')) z.c
         | _=>.no) = .ok o s' c'→pY E.P (lone (fat b a0 [.code lo.assign,.beginRound,.code lo.body]) (c0::cs) w) c0 cs (tT E M0 w0 μ w c s o s' c'):=by
       intro j _ hj hs2;obtain⟨a3,w3,μ3,ou,p1,p2,p3,p4,p5⟩:=hD2;split at hs2
       ·rename_i st3 pd3 t3 ps3 a3' b3' hg3;cases hs2;have hμ3:μ3 nm=some loc:=p2.mu _ _ hμ1;obtain⟨loc',bk,lo3,N3,v1,v2,v3,v4,v5,v6,v7,v8,v9,v10,v11,v12⟩:=p1.st nm _ loc hμ3 hg3;rw[hμ3]at v1;cases v1;rw[hl]at v2;cases v2
        let w4:World:={ w3 with heap:=w3.heap.setIfInBounds l (.loop { lo3 with state:=if(j.map sZ).isNone then .ready else .done,pending:=j.map sZ }) }
        have hlt3:l<w3.heap.size:=(p1.own nm loc l hμ3 hl).2;have hst:(if(j.map sZ).isNone=true then LoopState.ready else .done)=(bif j.isNone then .ready else .done):=by cases j<;>rfl
        obtain⟨hx4,hR4,hf4⟩:=p1.write nm (.lp (bif j.isNone then .ready else .done) j t3 ps3 a3' b3') loc l (w':=w4) (x':=⟨z.t,sset z.s nm (.lp (bif j.isNone then .ready else .done) j t3 ps3 a3' b3'),z.c,z.d,z.r⟩) hμ3 hl (by rw[hg3];rfl) (by simp[w4])
         (fun q hq=>by simp only[w4];rw[dA (fun e=>hq e.symm)]) (fun n=>rfl) (fun n=>by rw[aN]) rfl rfl
         (fun hx=>⟨loc,l,{ lo3 with state:=if(j.map sZ).isNone then .ready else .done,pending:=j.map sZ },N3,hμ3,hl,v3,by simp[w4,hlt3],hst,rfl,v7,v8,v9,v10,v11,fun n=>aP.mono hx _ _ (fV.refl _) (v12 n)⟩)
        have hrun:=run_endRound (P:=E.P) v4 (j.map sZ);have hbool:(j.map sZ).isNone=j.isNone:=by cases j<;>rfl
        refine⟨.returned (.bool j.isNone),w4,⟨μ3,hR4.toS,(r2.trans hf2).trans (p2.trans hf4),_,rfl,by simp only[aP]⟩,?_⟩
        rw[hbool]at hrun;cases o2 with
        | normal=>
         have hj':j=none:=hj;subst hj';cases p4;exact fB hto (fB p5 (.one (leave_end rfl rfl hrun)))
        | exit i=>
         have hj':j=some (some i):=hj;subst hj';cases p4;obtain⟨todo,e1,e2⟩:=p5;exact fB hto (fB e2 (.one (leave_exit rfl rfl (e1.trans (jumpTo_nil i)) hrun)))
        | ret=>
         have hj':j=some none:=hj;subst hj';cases p4;obtain⟨todo,e2⟩:=p5;exact fB hto (fB e2 (.one (leave_ret rfl rfl hrun)))
        | pan c=>exact hj.elim
       ·cases hs2
      cases o2 with
      | pan ch=>
       simp only at hs;split at hs
       ·rename_i hd;exact pan _ _ ch z μ1 w2 _ hD2 (r2.trans hf2) hd hs hto
       ·cases hs
      | normal=>exact done none ⟨.normal,rfl⟩ rfl hs
      | exit i=>exact done (some (some i)) ⟨.exit i,rfl⟩ rfl hs
      | ret=>exact done (some none) ⟨.ret,rfl⟩ rfl hs
    ·cases hs
 ·cases hs
end
def KOK(E:Env)(cx:Cx):Prop:=∀f,∀p∈cx.K f,callable E.P f=true∧xZ E f p.1 p.2∧p.2.flat=true
theorem zlook_mem{fa:List D}:∀{l:List (List D×D)} {d:D},zlook fa l=some d→(fa,d)∈l
 | [],d,h=>by simp[zlook]at h
 | p::r,d,h=>by
  simp only[zlook]at h;cases hs:nD 1000 p.1 fa<;>rw[hs]at h
  ·exact bG _ (zlook_mem h)
  ·cases h;have:=(sameD_eq 1000).2 _ _ hs;rw[←this];exact bH
def SpOK(E:Env)(f:Nat)(g:List D→St→Nat→FR):Prop:=
 ∀{M0:Nat→Prop} {w0:World} {μ:Mu} {w:World} {s:St} {c:Nat} {args:List D} {vals:List Value} {o:FO} {s':St} {c':Nat},
  kU E M0 w0 μ w s c→aX (Mm M0 μ) w μ args vals→g args s c = .ok o s' c'→callable E.P f=true∧Calls E.P f vals.toArray w (tT E M0 w0 μ w c s o s' c')
structure POK (E:Env) (cx:Cx):Prop where
 body:TOK E cx
 known:KOK E cx
 meth:∀t n f,cx.M t n=some f→oD E.P t n=some f
 glob:cx.G=E.G
 mixed:E.P.follows .mixedOrders=true
 spec:∀f g,cx.X f=some g→SpOK E f g
theorem zn_ok{E:Env}{cx:Cx}(H:POK E cx)(k:Nat):∀n,nH E (zN cx k n).fn∧DefOK E (zN cx k n).df:=by
 intro n
 induction n with
 | zero=>
  refine⟨⟨fun _ _ hs=>?_,fun _ _ hs=>?_⟩,fun _ _ hs=>?_⟩
  ·have hs':FR.no=_:=hs;cases hs'
  ·have hs':FR.no=_:=hs;cases hs'
  ·have hs':DR.no=_:=hs;cases hs'
 | succ n ih=>
  have C:Ctx E cx (zN cx k n).fn:=⟨ih.1,H.meth,H.glob,H.mixed⟩;refine⟨⟨fun {M0 w0 μ w s c f args vals o s' c'} h hv hs=>?_,fun h hv hs loc l hμ hl=>zround_ok C k h hv hs hμ hl⟩,fun h hv hs=>zdef_ok H.body C k h hv hs⟩
  have hs0:zspec cx f (zmemo cx f (zcall cx k (zN cx k n) f)) args s c = .ok o s' c':=hs;have hs1:(∃g,cx.X f=some g∧g args s c = .ok o s' c')∨zmemo cx f (zcall cx k (zN cx k n) f) args s c = .ok o s' c':=by
   unfold zspec at hs0;cases hX:cx.X f with
   | none=>rw[hX]at hs0;exact .inr hs0
   | some g=>rw[hX]at hs0;exact .inl ⟨g,rfl,hs0⟩
  rcases hs1 with⟨g,hX,hs1⟩|hs'
  ·exact H.spec f g hX h hv hs1
  unfold zmemo at hs';split at hs'
  ·exact vU H.body C ih.2 k h hv hs'
  ·rename_i p l hK;split at hs'
   ·exact vU H.body C ih.2 k h hv hs'
   ·rename_i fa hfa;split at hs'
    ·rename_i d hd;cases hs';obtain⟨hcb,hP,hfl⟩:=H.known f (fa,d) (by rw[hK];exact zlook_mem hd)
     have hfr:=frs_rel h (n:=20) hfa hv;have hcall:=hP M0 w vals (fun b hb=>bY (h.m0lt b hb) h.size) h.globals0 hfr
     refine⟨?_,hcall.mono ?_⟩
     ·exact hcb
     ·rintro e w' ⟨v,rfl,hvr,hsz,henv,hsame⟩;obtain⟨hR,hF⟩:=Rel.more h hsz henv hsame;exact⟨μ,hR,hF,v,rfl,aP.flat d v hfl hvr⟩
    ·exact vU H.body C ih.2 k h hv hs'
def st0:St:=.nd (.nd (.nd (.nd (.ls []) (.ls [])) (.nd (.ls []) (.ls []))) (.nd (.nd (.ls []) (.ls [])) (.nd (.ls []) (.ls [])))) (.nd (.nd (.nd (.ls []) (.ls [])) (.nd (.ls []) (.ls []))) (.nd (.nd (.ls []) (.ls [])) (.nd (.ls []) (.ls []))))
theorem dU(n:Nat):sget st0 n=none:=by
 have hl:∀n,(Tr.ls []:St).get n=none:=fun n=>rfl
 have hn:∀(a b:St),(∀n,a.get n=none)→(∀n,b.get n=none)→∀n,(Tr.nd a b).get n=none:=fun a b ha hb n=>by
  rw[trget_nd'];split
  ·exact ha _
  ·exact hb _
 have h1:=hn _ _ hl hl;have h2:=hn _ _ h1 h1;have h3:=hn _ _ h2 h2;exact hn _ _ h3 h3 n
noncomputable def runs(cx:Cx)(k n f:Nat)(args:List D)(d:D):Bool:=
 match(zN cx k n).fn (.fn f) args st0 0 with
 | .ok (.ret r) _ _=>sameD 1000 r d
 | _=>false
theorem pure_of_runs{E:Env}{cx:Cx}(H:POK E cx){f:Nat}(hcal:callable E.P f=true){k n:Nat}{args:List D}{d:D}(hs:runs cx k n f args d=true)(hfl:d.flat=true):
  callable E.P f=true∧xZ E f args d∧d.flat=true:=by
 unfold runs at hs;split at hs
 ·rename_i r s' c' hr;have hd:=(sameD_eq 1000).1 _ _ hs;subst hd;have hfn:=(zn_ok H k n).1;have start:∀(M:Nat→Prop) (w:World),(∀b,M b→b<w.heap.size)→GRel E M w→kU E M w mu0 w st0 0:=fun M w hM hG=>
   {size:=aJ _,old:=fun _ _=>rfl,m0lt:=hM,defers:=by simp only[iL],n:=dK _,tm:=fun n=>by rw[wB];simp only[aP]
    st:=fun nm blk l hl=>by simp[mu0]at hl
    lt:=fun nm l hl=>by simp[mu0]at hl
    own:=fun nm l b hl=>by simp[mu0]at hl
    inj:=fun n m l l' b _ _ hl=>by simp[mu0]at hl
    glob:=hG,env:=⟨rfl,rfl⟩ }
  refine⟨hcal,fun M w vals hM hG hv=>?_,hfl⟩
  ·have hx:Ext M w (Mm M mu0) w:=⟨aJ _,fun _ _ _=>rfl,fun b hb hm=>by
    rcases hm with hm|⟨nm,l,e,_⟩
    ·exact hm
    ·simp[mu0]at e⟩
   obtain⟨_,hc⟩:=hfn.fn (start M w hM hG) (aX.mono hx _ _ (fV.refl _) hv) hr;refine hc.mono ?_;rintro e w' ⟨μ',hS,hF,v,rfl,hvr⟩;exact⟨v,rfl,aP.flat r v hfl hvr,hF.size,hS.env,fun b hb=>hS.old b hb⟩
 ·cases hs
def lAll{α:Type}(Q:Nat→α→Prop)(g:Nat→Nat):List (Nat×α)→Prop
 | []=>True
 | p::r=>Q (g p.1) p.2∧lAll Q g r
def tAll{α:Type}(Q:Nat→α→Prop):Tr α→(Nat→Nat)→Prop
 | .ls l,g=>lAll Q g l
 | .nd a b,g=>tAll Q a (fun m=>g (2*m))∧tAll Q b (fun m=>g (2*m+1))
theorem sY{α:Type}{Q:Nat→α→Prop}{g:Nat→Nat}:∀{l:List (Nat×α)} {n:Nat} {v:α},lAll Q g l→lget l n=some v→Q (g n) v
 | [],n,v,_,h=>by simp[lget,lget_nil]at h
 | (k,u)::r,n,v,ha,h=>by
  rw[oF]at h;by_cases e:n=k
  ·rw[aH e]at h;cases h;rw[e];exact ha.1
  ·rw[aD e]at h;exact sY ha.2 h
theorem tAll_get{α:Type}{Q:Nat→α→Prop}:∀{t:Tr α} {g:Nat→Nat} {n:Nat} {v:α},tAll Q t g→t.get n=some v→Q (g n) v
 | .ls l,g,n,v,ha,h=>sY ha h
 | .nd a b,g,n,v,ha,h=>by
  rw[trget_nd']at h;split at h
  ·have:=tAll_get ha.1 h
   rwa [show 2*(n / 2)=n by omega]at this
  ·have:=tAll_get ha.2 h
   rwa [show 2*(n / 2)+1=n by omega]at this
def BodyQ(P:Program)(f:Nat)(A:AF):Prop:=callable P f=true∧∃fn,P.funcs[f]?=some fn∧compF P fn=some A
theorem body_of{P:Program}{f:Nat}{fn:Func}{A:AF}(hf:P.funcs[f]?=some fn)(hc:compF P fn=some A)(hn:(fn.name == "runtime.NumGoroutine")=false):BodyQ P f A:=by
 refine⟨?_,fn,hf,hc⟩;obtain⟨c,hb,_⟩:=rM hc;unfold callable;rw[hf];simp[hn,hb]
def TP(P:Program)(f:Nat):Option AF:=match P.funcs[f]? with
 | some fn=>bif fn.name == "runtime.NumGoroutine" then none else compF P fn
 | none=>none
theorem tp_ok{P:Program}{f:Nat}{A:AF}(h:TP P f=some A):BodyQ P f A:=by
 unfold TP at h;split at h
 ·rename_i fn hf;cases hn:fn.name == "runtime.NumGoroutine"<;>rw[hn]at h
  ·exact body_of hf h hn
  ·cases h
 ·cases h
def lS(P:Program)(g:Nat→Nat):List (Nat×AF)→List (Option AF)
 | []=>[]
 | p::r=>TP P (g p.1)::lS P g r
def tS(P:Program):Tr AF→(Nat→Nat)→Tr (List (Option AF))
 | .ls l,g=>.ls [(0,lS P g l)]
 | .nd a b,g=>.nd (tS P a (fun m=>g (2*m))) (tS P b (fun m=>g (2*m+1)))
def tV:Tr AF→Tr (List (Option AF))
 | .ls l=>.ls [(0,l.map fun p=>some p.2)]
 | .nd a b=>.nd (tV a) (tV b)
theorem lS_ok{P:Program}{g:Nat→Nat}:∀{l:List (Nat×AF)},lS P g l=l.map (fun p=>some p.2)→lAll (BodyQ P) g l
 | [],_=>trivial
 | p::r,h=>by
  simp only[lS,bW,List.cons.injEq]at h;exact⟨tp_ok h.1,lS_ok h.2⟩
theorem tS_ok{P:Program}:∀{T:Tr AF} {g:Nat→Nat},tS P T g=tV T→tAll (BodyQ P) T g
 | .ls l,g,h=>by
  simp only[tS,tV,Tr.ls.injEq,List.cons.injEq,dZ,and_true,true_and]at h;exact lS_ok h
 | .nd a b,g,h=>by
  simp only[tS,tV,Tr.nd.injEq]at h;exact⟨tS_ok h.1,tS_ok h.2⟩
def yB(E:Env)(f:Nat):List (List D×D)→Prop
 | []=>True
 | p::r=>(callable E.P f=true∧xZ E f p.1 p.2∧p.2.flat=true)∧yB E f r
theorem yB.mem{E:Env}{f:Nat}:∀{l:List (List D×D)},yB E f l→∀p∈l,callable E.P f=true∧xZ E f p.1 p.2∧p.2.flat=true
 | [],_,p,hp=>by cases hp
 | q::r,h,p,hp=>by
  rcases bL.1 hp with rfl|hp
  ·exact h.1
  ·exact yB.mem h.2 p hp
noncomputable def kGet(t:List (Nat×List (List D×D)))(f:Nat):List (List D×D):=Option.rec [] (fun l=>l) (lget t f)
theorem kok_of{E:Env}{T:Nat→Option AF}{G:List (Nat×List D)}{Mt:Nat→String→Option Nat}{t:List (Nat×List (List D×D))}{X:Nat→Option (List D→St→Nat→FR)}(h:lAll (fun f l=>yB E f l) id t):KOK E ⟨T,G,Mt,kGet t,X⟩:=by
 intro f p hp;have hp':p∈kGet t f:=hp;unfold kGet at hp';cases hl:lget t f with
 | none=>rw[hl]at hp';cases hp'
 | some l=>rw[hl]at hp';exact(sY h hl).mem p hp'
def mGet(l:List (Nat×String×Nat))(t:Nat)(name:String):Option Nat:=
 match l with
 | []=>none
 | p::r=>bif Nat.beq p.1 t&&p.2.1==name then some p.2.2 else mGet r t name
def mAll(P:Program):List (Nat×String×Nat)→Prop
 | []=>True
 | p::r=>oD P p.1 p.2.1=some p.2.2∧mAll P r
theorem mGet_ok{P:Program}:∀{l:List (Nat×String×Nat)},mAll P l→∀t n f,mGet l t n=some f→oD P t n=some f
 | [],_,t,n,f,h=>by simp[mGet]at h
 | p::r,ha,t,n,f,h=>by
  simp only[mGet]at h;cases hc:(Nat.beq p.1 t&&p.2.1==n)<;>rw[hc]at h
  ·exact mGet_ok ha.2 t n f h
  ·cases h;simp only[bE,Nat.beq_eq,beq_iff_eq]at hc;rw[←hc.1,←hc.2];exact ha.1
theorem pok0{E:Env}{kt:List (Nat×List (List D×D))}(hmix:E.P.follows .mixedOrders=true)(hk:lAll (fun f l=>yB E f l) id kt){X:List (Nat×(List D→St→Nat→FR))}(hX:lAll (SpOK E) id X):POK E ⟨TP E.P,E.G,mGet [],kGet kt,lget X⟩:=
 ⟨⟨fun f A h=>tp_ok h⟩,kok_of hk,mGet_ok trivial,rfl,hmix,fun f g h=>sY hX h⟩
theorem pok{E:Env}{TT:Tr AF}{ml:List (Nat×String×Nat)}{kt:List (Nat×List (List D×D))}(hT:tAll (BodyQ E.P) TT id)(hm:mAll E.P ml)(hmix:E.P.follows .mixedOrders=true)(hk:lAll (fun f l=>yB E f l) id kt)
  {X:List (Nat×(List D→St→Nat→FR))} (hX:lAll (SpOK E) id X) :
  POK E ⟨TT.get,E.G,mGet ml,kGet kt,lget X⟩:=
 ⟨⟨fun f A h=>tAll_get hT h⟩,kok_of hk,mGet_ok hm,rfl,hmix,fun f g h=>sY hX h⟩
end Zv
