/- Rounds of ranges over functions; calls, so many deep; contracts from closed runs. Conditions: none. -/
import Derived.Test.YtnpoohbeicakkaaGreatDoorZAH
import Derived.ChangeArms
import Derived.OpenShut
set_option linter.unusedSimpArgs false
set_option linter.unusedVariables false
namespace Zv
open Go
theorem putAll_rel{M:Nat→Prop}{w:World}{μ:Mu}{N:Nat}:∀{ps:List Nat} {args:List D} {vals:List Value} {T:Array Value} {t:Tm},(ps.all fun p=>Nat.blt p N)=true→N≤T.size→bI M w μ args vals→args.length=ps.length →
  (∀n,aY M w μ (tget t n) (T.getD n undef))→N≤((ps.zip vals).foldl (fun(T:Array Value) p=>T.setIfInBounds p.1 p.2) T).size∧∀n,aY M w μ (tget (oQ ps args t) n) (((ps.zip vals).foldl (fun(T:Array Value) p=>T.setIfInBounds p.1 p.2) T).getD n undef)
 | [],args,vals,T,t,_,hN,_,_,ht=>by
  grind [oQ,List.zip_nil_left]
 | p::ps,[],vals,T,t,_,_,_,hl,_=>by simp at hl
 | p::ps,d::ds,vals,T,t,hp,hN,hv,hl,ht=>by
  simp only[bI]at hv;obtain⟨v,vs,rfl,h1,h2⟩:=hv;simp only[List.all_cons,bW]at hp;have zQ:p<T.size:=bY (by simp_all) hN
  simp only[oQ,List.zip_cons_cons,List.foldl_cons];refine putAll_rel (T:=T.setIfInBounds p v) (t:=tput t p d) hp.2 (by simpa using hN) h2 (by simpa using hl) fun n=>?_
  rw[nB,gV]
  grind [Array.getElem?_setIfInBounds_self_of_lt,Array.getElem?_setIfInBounds_ne,gV]
section
variable {P:Program} {b:Frame} {a:Act} {k:List Item} {cs:List Frame} {w w':World}
variable {l:Nat} {c0:Frame} {todo:List Item}
theorem step_begin(hr:b.roundOf=some l)(h:(Instr.beginRound l).run P w = .ok () w'):Go.step P (lone (fat b a (.beginRound::k)) cs w) = .next (lone (fat b a k) cs w'):=by
 refine dK ?_;have hs:(do (fat b a (.beginRound::k)).roundOf.elim (stuck "beginRound: no round") Instr.beginRound;pure .skip:Sem Next).run P w = .ok .skip w':=by
  have:(fat b a (.beginRound::k)).roundOf=some l:=hr;rw[this];simp[h]
 have:=rU (fr:=fat b a (.beginRound::k)) (cs:=cs) hs;have hf:(fat b a (.beginRound::k)).finish undef=fat b a k:=rfl;rw[hf]at this;rw[←this];simp[stepG,stepG.exec,fat]
theorem run_beginRound{lo:Loop}(h:w.heap[l]?=some (.loop lo))(hs:lo.state = .ready):
  (Instr.beginRound l).run P w = .ok () { w with heap:=w.heap.setIfInBounds l (.loop { lo with state:=.busy }) }:=by
 simp[Instr.beginRound,Instr.getLoop,getObj,setObj,Sem.run,h,hs]
theorem run_endRound{lo:Loop}(h:w.heap[l]?=some (.loop lo))(j:Option Code):
  (Instr.endRound l j).run P w = .ok (.bool j.isNone) { w with heap:=w.heap.setIfInBounds l (.loop { lo with state:=if j.isNone then .ready else .done,pending:=j }) }:=by
 simp[Instr.endRound,Instr.getLoop,getObj,setObj,Sem.run,h]
theorem leave_end{v:Value}(hr:b.roundOf=some l)(hk:b.kind = .normal)(h:(Instr.endRound l none).run P w = .ok v w'):
  Go.step P (lone (fat b a []) (c0::cs) w) = .next (lone (c0.finish v) cs w'):=
 dK (by simp_all [stepG,stepG.exec,fat,doReturn])
theorem leave_ret{v:Value}(hr:b.roundOf=some l)(hk:b.kind = .normal)(h:(Instr.endRound l (some .ret)).run P w = .ok v w'):
  Go.step P (lone (fat b a (.code .ret::todo)) (c0::cs) w) = .next (lone (c0.finish v) cs w'):=
 dK (by simp_all [stepG,stepG.exec,fat,doReturn])
theorem leave_exit{i:Nat}{v:Value}(hr:b.roundOf=some l)(hk:b.kind = .normal)(he:iE i todo=none)(h:(Instr.endRound l (some (tT i))).run P w = .ok v w'):
  Go.step P (lone (fat b a (.code (tT i)::todo)) (c0::cs) w) = .next (lone (c0.finish v) cs w'):=by
 unfold iE at he;unfold tT at h ⊢;cases hp:Nat.beq (i % 2) 0<;>rw[hp]at he h
 ·simp only[cO]at he h ⊢;exact dK (by simp_all [stepG,stepG.exec,fat,doReturn])
 ·simp only[bG]at he h ⊢;exact dK (by simp_all [stepG,stepG.exec,fat,doReturn])
theorem vF{Aj:List PanicEntry}(hd:a.defers=[])(ho:Item.own todo=true):
  Go.step P (lone { fat b a todo with mode:=.panicking Aj } (c0::cs) w) = .next (lone (c0.raise Aj) cs w):=by
 refine dK ?_;have hc:Frame.catches P { fat b a todo with mode:=.panicking Aj }=false:=by
  unfold Frame.catches;simp only[fat];split
  ·cases ho
  ·rfl
 simp_all [fat,stepG,unwind]
end
section
variable {E:Env} {cx:Cx} {M0:Nat→Prop} {w0:World} {μ:Mu} {M:Nat→Prop} {w:World}
theorem zround_ok{cl:CL}(H:Ctx E cx cl)(k:Nat){s:St}{c nm:Nat}{args:List D}{vals:List Value}{o:FO}{s':St}{c':Nat}(h:lW E M0 w0 μ w s c)(hv:bI (Mm M0 μ) w μ args vals)
  (hs:zRound cx cl k nm args s c = .ok o s' c') {loc:Loc} {l:Nat} (hμ:μ nm=some loc) (hl:loc.blk=some l):oI E.P (Instr.yield l vals.toArray) w (uP E M0 w0 μ w c s o s' c'):=by
 unfold zRound at hs;split at hs
 ·rename_i st0 pd0 t ps a' b' hg;cases zU:Nat.beq args.length ps.length<;>rw[zU]at hs
  ·cases hs
  have Qm:=bH zU;simp only[bG]at hs;obtain⟨loc',bk,lo,N,g1,g2,g3,g4,g5,g6,g7,g8,g9,Hx,Ps,Pr⟩:=h.st nm _ loc hμ hg;rw[hμ]at g1;cases g1;rw[hl]at g2;cases g2
  let T:Array Value:=(ps.zip vals).foldl (fun(T:Array Value) p=>T.setIfInBounds p.1 p.2) lo.tmps
  have hvl:vals.length=args.length:=hv.length;have Rk:(Instr.yield l vals.toArray).run E.P w = .ok (.round l lo.fn T lo.assign lo.body) w:=by
   have Fu:lo.params.size=ps.length:=by rw[←g7];simp
   have Ae:vals.toArray.size=lo.params.size:=by rw[Fu,←Qm,←hvl];simp
   have hT:(lo.params.zip vals.toArray).foldl (fun tmps (t,a)=>tmps.setIfInBounds t a) lo.tmps=T:=by
    rw[←Array.foldl_toList,Array.toList_zip,g7]
   have An:¬(vals.toArray.size≠lo.params.size):=fun e=>e Ae
   have hz:(lo.params.zip vals.toArray).size=lo.params.size:=by rw[Array.size_zip,Ae];simp
   simp[Instr.yield,Instr.getLoop,getObj,Sem.run,g4,Ae];rw[←hz];exact hT
  obtain⟨hTs,hTr⟩:=putAll_rel (T:=lo.tmps) (t:=t) g8 Ps hv Qm Pr
  let b:Frame:={ (default:Frame) with fn:=lo.fn,kind:=.normal,roundOf:=some l }
  let a0:Act:=⟨T,[]⟩
  have hR0:Rel E M0 w0 N μ a0 w ⟨oQ ps args t,s,c,[],some nm⟩:=h.frame hTs hTr (by grind [iR])
  have Ve:gR b (some nm) μ:=⟨loc,l,hμ,hl,rfl⟩;refine⟨_,w,_,Rk,.round _ _ _ _ _,fun c0 cs=>?_⟩
  have zX:Frame.round l lo.fn T lo.assign lo.body .normal=fat b a0 [.code lo.assign,.beginRound,.code lo.body]:=rfl;rw[zX];have pan:∀(m:Machine) (kk:List Item) (ch:Ch) (z:AS) (μ1:Mu) (w1:World) (x1:AS),Did E M0 w0 N μ1 w1 x1 m b kk (c0::cs) (.pan ch) z→Fr c s μ w x1.c x1.s μ1 w1→z.d=[]→FR.ok (.pan ch) z.s z.c = .ok o s' c' →
    Steps E.P (lone (fat b a0 [.code lo.assign,.beginRound,.code lo.body]) (c0::cs) w) m→qN E.P (lone (fat b a0 [.code lo.assign,.beginRound,.code lo.body]) (c0::cs) w) c0 cs (uP E M0 w0 μ w c s o s' c'):=by
   intro m kk ch z μ1 w1 x1 hD hf hd he zZ;cases he;obtain⟨a2,w2,μ2,ou,r1,r2,r3,r4,r5⟩:=hD;obtain⟨Aj,rfl,Iq⟩:=r4;obtain⟨todo,t0,t1⟩:=r5;have Hu:a2.defers=[]:=by have:=r1.defers;rw[hd]at this;simpa only[iR]using this
   exact⟨.panicked Aj,w2,⟨μ2,r1.toS,hf.trans r2,Aj,rfl,Iq⟩,fW zZ (fW t1 (.one (vF Hu t0)))⟩
  cases hz:zC a' cx cl k ⟨oQ ps args t,s,c,[],some nm⟩ with
  | no=>grind
  | ok o1 y=>
   rw[hz]at hs;have hD:=qK (b:=b) (cs:=c0::cs) (k:=[.beginRound,.code lo.body]) H lo.assign g9 hR0 Ve hz;cases o1 with
   | exit i=>cases hs
   | ret=>cases hs
   | pan ch=>
    simp only at hs;split at hs
    ·rename_i hd;exact pan _ _ ch y μ w _ hD (Fr.refl _ _ _ _) hd hs (.refl _ _)
    ·cases hs
   | normal=>
    simp only at hs;obtain⟨a1,w1,μ1,ou,r1,r2,r3,r4,r5⟩:=hD;cases r4;split at hs
    ·rename_i Ck t' Ln a2 b2 Pb;have Tp:μ1 nm=some loc:=r2.mu _ _ hμ;obtain⟨loc',bk,lo1,N1,q1,q2,q3,q4,q5,q6,q7,q8,q9,q10,q11,q12⟩:=r1.st nm _ loc Tp Pb;rw[Tp]at q1;cases q1;rw[hl]at q2;cases q2
     let w2:World:={ w1 with heap:=w1.heap.setIfInBounds l (.loop { lo1 with state:=.busy }) }
     have hlt1:l<w1.heap.size:=(r1.own nm loc l Tp hl).2;obtain⟨hx2,hR2,Gz⟩:=r1.write nm (.lp .busy Ck t' Ln a2 b2) loc l (w':=w2) (x':=⟨y.t,sset y.s nm (.lp .busy Ck t' Ln a2 b2),y.c,y.d,y.r⟩) Tp hl (by rw[Pb];rfl) (by simp[w2])
      (fun q hq=>by grind) (fun n=>rfl) (fun n=>by rw[aU]) rfl rfl
      (fun hx=>⟨loc,l,{ lo1 with state:=.busy },N1,Tp,hl,q3,by grind,rfl,q6,q7,q8,q9,q10,q11,fun n=>aY.mono hx _ _ (gJ.refl _) (q12 n)⟩)
     have hbeg:=step_begin (P:=E.P) (b:=b) (a:=a1) (k:=[.code lo.body]) (cs:=c0::cs) (w:=w1) (w':=w2) rfl (run_beginRound q4 q5);have Oj:Steps E.P (lone (fat b a0 [.code lo.assign,.beginRound,.code lo.body]) (c0::cs) w) (lone (fat b a1 [.code lo.body]) (c0::cs) w2):=fW r5 (.one hbeg);have hro2:gR b y.r μ1:=by rw[r3];exact Ve.mono r2.mu
     cases Bz:zC b' cx cl k ⟨y.t,sset y.s nm (.lp .busy Ck t' Ln a2 b2),y.c,y.d,y.r⟩ with
     | no=>grind
     | ok o2 z=>
      rw[Bz]at hs;have hD2:=qK (b:=b) (cs:=c0::cs) (k:=[]) H lo.body Hx hR2 hro2 Bz;have done:∀(j:Option (Option Nat)),(∃ou:Ou,OuRel (Mm M0 μ) w μ o2 ou)→(match o2 with | .normal=>j=none | .exit i=>j=some (some i) | .ret=>j=some none | .pan _=>False) →
        (match sget z.s nm with
         | some (.lp _ _ t' Ln a' b')=>FR.ok (.ret (.bool j.isNone)) (sset z.s nm (.lp (bif j.isNone then .ready else .done) j t' Ln a' b')) z.c
         | _=>.no) = .ok o s' c'→qN E.P (lone (fat b a0 [.code lo.assign,.beginRound,.code lo.body]) (c0::cs) w) c0 cs (uP E M0 w0 μ w c s o s' c'):=by
       intro j _ hj Az;obtain⟨a3,w3,μ3,ou,p1,p2,p3,p4,p5⟩:=hD2;split at Az
       ·rename_i st3 pd3 t3 ps3 a3' Zg hg3;cases Az;have Rh:μ3 nm=some loc:=p2.mu _ _ Tp;obtain⟨loc',bk,lo3,N3,v1,v2,v3,v4,v5,v6,v7,v8,v9,v10,v11,v12⟩:=p1.st nm _ loc Rh hg3;rw[Rh]at v1;cases v1;rw[hl]at v2;cases v2
        let w4:World:={ w3 with heap:=w3.heap.setIfInBounds l (.loop { lo3 with state:=if(j.map tR).isNone then .ready else .done,pending:=j.map tR }) }
        have hlt3:l<w3.heap.size:=(p1.own nm loc l Rh hl).2;have zZ:(if(j.map tR).isNone=true then LoopState.ready else .done)=(bif j.isNone then .ready else .done):=by grind
        obtain⟨hx4,hR4,hf4⟩:=p1.write nm (.lp (bif j.isNone then .ready else .done) j t3 ps3 a3' Zg) loc l (w':=w4) (x':=⟨z.t,sset z.s nm (.lp (bif j.isNone then .ready else .done) j t3 ps3 a3' Zg),z.c,z.d,z.r⟩) Rh hl (by rw[hg3];rfl) (by simp[w4])
         (fun q hq=>by grind) (fun n=>rfl) (fun n=>by rw[aU]) rfl rfl
         (fun hx=>⟨loc,l,{ lo3 with state:=if(j.map tR).isNone then .ready else .done,pending:=j.map tR },N3,Rh,hl,v3,by grind,zZ,rfl,v7,v8,v9,v10,v11,fun n=>aY.mono hx _ _ (gJ.refl _) (v12 n)⟩)
        have zV:=run_endRound (P:=E.P) v4 (j.map tR);have It:(j.map tR).isNone=j.isNone:=by grind
        refine⟨.returned (.bool j.isNone),w4,⟨μ3,hR4.toS,(r2.trans Gz).trans (p2.trans hf4),_,rfl,by simp only[aY]⟩,?_⟩
        rw[It]at zV;cases o2 with
        | normal=>
         have Ml:j=none:=hj;subst Ml;cases p4;exact fW Oj (fW p5 (.one (leave_end rfl rfl zV)))
        | exit i=>
         have Ml:j=some (some i):=hj;subst Ml;cases p4;obtain⟨todo,e1,e2⟩:=p5;exact fW Oj (fW e2 (.one (leave_exit rfl rfl (e1.trans (jumpTo_nil i)) zV)))
        | ret=>
         have Ml:j=some none:=hj;subst Ml;cases p4;obtain⟨todo,e2⟩:=p5;exact fW Oj (fW e2 (.one (leave_ret rfl rfl zV)))
        | pan c=>exact hj.elim
       ·cases Az
      cases o2 with
      | pan ch=>
       simp only at hs;split at hs
       ·rename_i hd;exact pan _ _ ch z μ1 w2 _ hD2 (r2.trans Gz) hd hs Oj
       ·cases hs
      | normal=>exact done none ⟨.normal,rfl⟩ rfl hs
      | exit i=>exact done (some (some i)) ⟨.exit i,rfl⟩ rfl hs
      | ret=>exact done (some none) ⟨.ret,rfl⟩ rfl hs
    ·cases hs
 ·cases hs
end
variable {E:Env}
def KOK(E:Env)(cx:Cx):Prop:=∀f,∀p∈cx.K f,callable E.P f=true∧zJ E f p.1 p.2∧p.2.flat=true
theorem zlook_mem{fa:List D}:∀{l:List (List D×D)} {d:D},zlook fa l=some d→(fa,d)∈l
 | [],d,h=>by simp[zlook]at h
 | p::r,d,h=>by
  simp only[zlook]at h;cases hs:oB 1000 p.1 fa<;>rw[hs]at h
  ·exact dA _ (zlook_mem h)
  ·cases h;have:=(sameD_eq 1000).2 _ _ hs
   grind
def SpOK(E:Env)(f:Nat)(g:List D→St→Nat→FR):Prop:=
 ∀{M0:Nat→Prop} {w0:World} {μ:Mu} {w:World} {s:St} {c:Nat} {args:List D} {vals:List Value} {o:FO} {s':St} {c':Nat},
  lW E M0 w0 μ w s c→bI (Mm M0 μ) w μ args vals→g args s c = .ok o s' c'→callable E.P f=true∧Calls E.P f vals.toArray w (uP E M0 w0 μ w c s o s' c')
structure POK (E:Env) (cx:Cx):Prop where
 body:TOK E cx
 known:KOK E cx
 meth:∀t n f,cx.M t n=some f→oT E.P t n=some f
 glob:cx.G=E.G
 mixed:E.P.follows .mixedOrders=true
 spec:∀f g,cx.X f=some g→SpOK E f g
theorem zn_ok{cx:Cx}(H:POK E cx)(k:Nat):∀n,oF E (zN cx k n).fn∧DefOK E (zN cx k n).df:=by
 intro n
 induction n with
 | zero=>
  refine⟨⟨fun _ _ hs=>?_,fun _ _ hs=>?_⟩,fun _ _ hs=>?_⟩
  ·have hs':FR.no=_:=hs;cases hs'
  ·have hs':FR.no=_:=hs;cases hs'
  ·have hs':DR.no=_:=hs;cases hs'
 | succ n ih=>
  have C:Ctx E cx (zN cx k n).fn:=⟨ih.1,H.meth,H.glob,H.mixed⟩;refine⟨⟨fun {M0 w0 μ w s c f args vals o s' c'} h hv hs=>?_,fun h hv hs loc l hμ hl=>zround_ok C k h hv hs hμ hl⟩,fun h hv hs=>zdef_ok H.body C k h hv hs⟩
  have Ie:zspec cx f (zmemo cx f (zcall cx k (zN cx k n) f)) args s c = .ok o s' c':=hs;have Ax:(∃g,cx.X f=some g∧g args s c = .ok o s' c')∨zmemo cx f (zcall cx k (zN cx k n) f) args s c = .ok o s' c':=by
   unfold zspec at Ie;cases hX:cx.X f with
   | none=>simp_all
   | some g=>simp_all
  rcases Ax with⟨g,hX,Ax⟩|hs'
  ·exact H.spec f g hX h hv Ax
  unfold zmemo at hs';split at hs'
  ·exact wY H.body C ih.2 k h hv hs'
  ·rename_i p l hK;split at hs'
   ·exact wY H.body C ih.2 k h hv hs'
   ·rename_i fa Yk;split at hs'
    ·rename_i d hd;cases hs';obtain⟨Js,hP,Bj⟩:=H.known f (fa,d) (by grind [zlook_mem])
     have zX:=frs_rel h (n:=20) Yk hv;have Au:=hP M0 w vals (fun b hb=>bY (h.m0lt b hb) h.size) h.globals0 zX
     refine⟨?_,Au.mono ?_⟩
     ·exact Js
     ·rintro e w' ⟨v,rfl,Hl,Ae,Ea,Ar⟩;obtain⟨hR,hF⟩:=Rel.more h Ae Ea Ar;exact⟨μ,hR,hF,v,rfl,aY.flat d v Bj Hl⟩
    ·exact wY H.body C ih.2 k h hv hs'
def st0:St:=.nd (.nd (.nd (.nd (.ls []) (.ls [])) (.nd (.ls []) (.ls []))) (.nd (.nd (.ls []) (.ls [])) (.nd (.ls []) (.ls [])))) (.nd (.nd (.nd (.ls []) (.ls [])) (.nd (.ls []) (.ls []))) (.nd (.nd (.ls []) (.ls [])) (.nd (.ls []) (.ls []))))
theorem dX(n:Nat):sget st0 n=none:=by
 have hl:∀n,(Tr.ls []:St).get n=none:=fun n=>rfl
 have hn:∀(a b:St),(∀n,a.get n=none)→(∀n,b.get n=none)→∀n,(Tr.nd a b).get n=none:=fun a b ha hb n=>by
  grind [trget_nd']
 have h1:=hn _ _ hl hl;have h2:=hn _ _ h1 h1;have h3:=hn _ _ h2 h2;exact hn _ _ h3 h3 n
noncomputable def runs(cx:Cx)(k n f:Nat)(args:List D)(d:D):Bool:=
 match(zN cx k n).fn (.fn f) args st0 0 with
 | .ok (.ret r) _ _=>xP 1000 r d
 | _=>false
theorem pure_of_runs{cx:Cx}(H:POK E cx){f:Nat}(Aw:callable E.P f=true){k n:Nat}{args:List D}{d:D}(hs:runs cx k n f args d=true)(Bj:d.flat=true):
  callable E.P f=true∧zJ E f args d∧d.flat=true:=by
 unfold runs at hs;split at hs
 ·rename_i r s' c' hr;have hd:=(sameD_eq 1000).1 _ _ hs;subst hd;have Dz:=(zn_ok H k n).1;have start:∀(M:Nat→Prop) (w:World),(∀b,M b→b<w.heap.size)→GRel E M w→lW E M w mu0 w st0 0:=fun M w hM hG=>
   {size:=aK _,old:=fun _ _=>rfl,m0lt:=hM,defers:=by simp only[iR],n:=dM _,tm:=fun n=>by grind [xG,aY]
    st:=fun nm blk l hl=>by simp[mu0]at hl
    lt:=fun nm l hl=>by simp[mu0]at hl
    own:=fun nm l b hl=>by simp[mu0]at hl
    inj:=fun n m l l' b _ _ hl=>by simp[mu0]at hl
    glob:=hG,env:=⟨rfl,rfl⟩ }
  refine⟨Aw,fun M w vals hM hG hv=>?_,Bj⟩
  ·have hx:Ext M w (Mm M mu0) w:=⟨aK _,fun _ _ _=>rfl,fun b hb hm=>by
    rcases hm with hm|⟨nm,l,e,_⟩
    all_goals grind [mu0]⟩
   obtain⟨_,hc⟩:=Dz.fn (start M w hM hG) (bI.mono hx _ _ (gJ.refl _) hv) hr;refine hc.mono ?_;rintro e w' ⟨μ',hS,hF,v,rfl,Hl⟩;exact⟨v,rfl,aY.flat r v Bj Hl,hF.size,hS.env,fun b hb=>hS.old b hb⟩
 ·cases hs
def lAll{α:Type}(Q:Nat→α→Prop)(g:Nat→Nat):List (Nat×α)→Prop
 | []=>True
 | p::r=>Q (g p.1) p.2∧lAll Q g r
def tAll{α:Type}(Q:Nat→α→Prop):Tr α→(Nat→Nat)→Prop
 | .ls l,g=>lAll Q g l
 | .nd a b,g=>tAll Q a (fun m=>g (2*m))∧tAll Q b (fun m=>g (2*m+1))
theorem tP{α:Type}{Q:Nat→α→Prop}{g:Nat→Nat}:∀{l:List (Nat×α)} {n:Nat} {v:α},lAll Q g l→lget l n=some v→Q (g n) v
 | [],n,v,_,h=>by simp[lget,lget_nil]at h
 | (k,u)::r,n,v,ha,h=>by
  rw[tO]at h;by_cases e:n=k
  ·rw[aS e]at h;cases h;rw[e];exact ha.1
  ·rw[aG e]at h;exact tP ha.2 h
theorem tAll_get{α:Type}{Q:Nat→α→Prop}:∀{t:Tr α} {g:Nat→Nat} {n:Nat} {v:α},tAll Q t g→t.get n=some v→Q (g n) v
 | .ls l,g,n,v,ha,h=>tP ha h
 | .nd a b,g,n,v,ha,h=>by
  rw[trget_nd']at h;split at h
  ·have:=tAll_get ha.1 h
   rwa [show 2*(n / 2)=n by omega]at this
  ·have:=tAll_get ha.2 h
   rwa [show 2*(n / 2)+1=n by omega]at this
def BodyQ(P:Program)(f:Nat)(A:AF):Prop:=callable P f=true∧∃fn,P.funcs[f]?=some fn∧compF P fn=some A
theorem body_of{P:Program}{f:Nat}{fn:Func}{A:AF}(hf:P.funcs[f]?=some fn)(hc:compF P fn=some A)(hn:(fn.name == "runtime.NumGoroutine")=false):BodyQ P f A:=by
 refine⟨?_,fn,hf,hc⟩
 grind [rS,callable]
def TP(P:Program)(f:Nat):Option AF:=match P.funcs[f]? with
 | some fn=>bif fn.name == "runtime.NumGoroutine" then none else compF P fn
 | none=>none
theorem tp_ok{P:Program}{f:Nat}{A:AF}(h:TP P f=some A):BodyQ P f A:=by
 grind [TP,body_of]
def lS(P:Program)(g:Nat→Nat):List (Nat×AF)→List (Option AF)
 | []=>[]
 | p::r=>TP P (g p.1)::lS P g r
def tS(P:Program):Tr AF→(Nat→Nat)→Tr (List (Option AF))
 | .ls l,g=>.ls [(0,lS P g l)]
 | .nd a b,g=>.nd (tS P a (fun m=>g (2*m))) (tS P b (fun m=>g (2*m+1)))
def tV:Tr AF→Tr (List (Option AF))
 | .ls l=>.ls [(0,l.map fun p=>some p.2)]
 | .nd a b=>.nd (tV a) (tV b)
theorem lS_ok{P:Program}{g:Nat→Nat}:∀{l:List (Nat×AF)},lS P g l=l.map (fun p=>some p.2)→lAll (BodyQ P) g l
 | [],_=>trivial
 | p::r,h=>by
  simp only[lS,bS,List.cons.injEq]at h;exact⟨tp_ok h.1,lS_ok h.2⟩
theorem tS_ok{P:Program}:∀{T:Tr AF} {g:Nat→Nat},tS P T g=tV T→tAll (BodyQ P) T g
 | .ls l,g,h=>by
  simp only[tS,tV,Tr.ls.injEq,List.cons.injEq,eO,and_true,true_and]at h;exact lS_ok h
 | .nd a b,g,h=>by
  simp only[tS,tV,Tr.nd.injEq]at h;exact⟨tS_ok h.1,tS_ok h.2⟩
def zM(E:Env)(f:Nat):List (List D×D)→Prop
 | []=>True
 | p::r=>(callable E.P f=true∧zJ E f p.1 p.2∧p.2.flat=true)∧zM E f r
theorem zM.mem{E:Env}{f:Nat}:∀{l:List (List D×D)},zM E f l→∀p∈l,callable E.P f=true∧zJ E f p.1 p.2∧p.2.flat=true
 | [],_,p,hp=>by cases hp
 | q::r,h,p,hp=>by
  rcases cH.1 hp with rfl|hp
  ·exact h.1
  ·exact zM.mem h.2 p hp
noncomputable def kGet(t:List (Nat×List (List D×D)))(f:Nat):List (List D×D):=Option.rec [] (fun l=>l) (lget t f)
theorem kok_of{T:Nat→Option AF}{G:List (Nat×List D)}{Mt:Nat→String→Option Nat}{t:List (Nat×List (List D×D))}{X:Nat→Option (List D→St→Nat→FR)}(h:lAll (fun f l=>zM E f l) id t):KOK E ⟨T,G,Mt,kGet t,X⟩:=by
 intro f p hp;have Ry:p∈kGet t f:=hp;unfold kGet at Ry;cases hl:lget t f with
 | none=>simp_all
 | some l=>rw[hl]at Ry;exact(tP h hl).mem p Ry
def mGet(l:List (Nat×String×Nat))(t:Nat)(name:String):Option Nat:=
 match l with
 | []=>none
 | p::r=>bif Nat.beq p.1 t&&p.2.1==name then some p.2.2 else mGet r t name
def mAll(P:Program):List (Nat×String×Nat)→Prop
 | []=>True
 | p::r=>oT P p.1 p.2.1=some p.2.2∧mAll P r
theorem mGet_ok{P:Program}:∀{l:List (Nat×String×Nat)},mAll P l→∀t n f,mGet l t n=some f→oT P t n=some f
 | [],_,t,n,f,h=>by simp[mGet]at h
 | p::r,ha,t,n,f,h=>by
  simp only[mGet]at h;cases hc:(Nat.beq p.1 t&&p.2.1==n)<;>rw[hc]at h
  ·exact mGet_ok ha.2 t n f h
  ·cases h;simp only[bW,Nat.beq_eq,beq_iff_eq]at hc;rw[←hc.1,←hc.2];exact ha.1
theorem pok0{kt:List (Nat×List (List D×D))}(Sc:E.P.follows .mixedOrders=true)(hk:lAll (fun f l=>zM E f l) id kt){X:List (Nat×(List D→St→Nat→FR))}(hX:lAll (SpOK E) id X):POK E ⟨TP E.P,E.G,mGet [],kGet kt,lget X⟩:=
 ⟨⟨fun f A h=>tp_ok h⟩,kok_of hk,mGet_ok trivial,rfl,Sc,fun f g h=>tP hX h⟩
theorem pok{TT:Tr AF}{ml:List (Nat×String×Nat)}{kt:List (Nat×List (List D×D))}(hT:tAll (BodyQ E.P) TT id)(hm:mAll E.P ml)(Sc:E.P.follows .mixedOrders=true)(hk:lAll (fun f l=>zM E f l) id kt) 
  {X:List (Nat×(List D→St→Nat→FR))} (hX:lAll (SpOK E) id X) :
  POK E ⟨TT.get,E.G,mGet ml,kGet kt,lget X⟩:=
 ⟨⟨fun f A h=>tAll_get hT h⟩,kok_of hk,mGet_ok hm,rfl,Sc,fun f g h=>tP hX h⟩
end Zv
namespace Zv
open Go
noncomputable section
def frz(p:Bool):Nat→St→D→Option D
 | 0,_,_=>none
 | n+1,s,d=>
  match d with
  | .agg cs=>(cs.mapM (frz p n s)).map .agg
  | .tup cs=>(cs.mapM (frz p n s)).map .tup
  | .iface t d=>(frz p n s d).map (.iface t)
  | .fn f a b=>do let a ←a.mapM (frz p n s);let b ←b.mapM (frz p n s);some (.fn f a b)
  | .ms nm off sz len cap=>
   match sget s nm with
   | some (.fix _ cs)=>bif Nat.ble (off+len*sz) cs.length then(((cs.drop off).take (len*sz)).mapM (frz p n s)).map (.sl (Nat.beq cap len) len) else none
   | some (.grow _ cs)=>bif Nat.ble (off+len*sz) cs.length then(((cs.drop off).take (len*sz)).mapM (frz p n s)).map (.sl (Nat.beq cap len) len) else none
   | _=>none
  | .gs nm off sz len=>
   match sget s nm with
   | some (.grow _ cs)=>bif Nat.ble (off+len*sz) cs.length then(((cs.drop off).take (len*sz)).mapM (frz p n s)).map (.sl false len) else none
   | _=>none
  | .ptr nm off=>
   match sget s nm with
   | some (.fix _ cs)=>(cs.mapM (frz p n s)).map fun cs=>.iptr cs off
   | _=>none
  | .sl ex len cs=>bif p then none else some (.sl ex len cs)
  | .iptr cs off=>bif p then none else some (.iptr cs off)
  | .it _=>none
  | .mp _=>none
  | .yl _=>none
  | .un=>some .un
  | .bool b=>some (.bool b)
  | .int k i=>some (.int k i)
  | .str b=>some (.str b)
  | .nils=>some .nils
  | .nilp=>some .nilp
  | .nilif=>some .nilif
  | .nilfn=>some .nilfn
  | .nilm=>some .nilm
  | .adr b o=>some (.adr b o)
section
variable {E:Env} {M0:Nat→Prop} {w0:World} {N:Nat} {μ:Mu} {a:Act} {w:World} {x:AS}
theorem rN(h:Rel E M0 w0 N μ a w x){p:Bool}{Q:Nat→Prop}(hq:∀nm l b,μ nm=some l→l.blk=some b→¬Q b)(hp:p=false→∀b,b<w.heap.size→Q b→Mm M0 μ b):
  ∀(n:Nat) (d d':D) (v:Value),frz p n x.s d=some d'→aY (Mm M0 μ) w μ d v→aY Q w mu0 d' v:=by
 intro n
 induction n with
 | zero=>grind [frz]
 | succ n ih=>
  intro d d' v hf hv;have Lq:∀(cs ds:List D) (vs:List Value),cs.mapM (frz p n x.s)=some ds→bI (Mm M0 μ) w μ cs vs→bI Q w mu0 ds vs:=fun cs ds vs hm hr=>by
   obtain⟨h1,h2⟩:=vA (R:=aY (Mm M0 μ) w μ) (R':=aY Q w mu0) hm hr.length (fun i c v hc hv=>hr.at hc hv) (fun c d v hc hf hr=>ih c d v hf hr)
   exact bI.mk h1 h2
  have cells:∀(b off:Nat) (cs ds:List D),cs.mapM (frz p n x.s)=some ds→(∀(i:Nat) (e:D),cs[i]?=some e→∃v',w.cell? ⟨b,off+i,none⟩=some v'∧aY (Mm M0 μ) w μ e v')→iK Q w b off ds:=by
   intro b off cs ds hm hc;obtain⟨h1,h2⟩:=mP hm;refine iK.mk fun i d hd=>?_
   have hi:i<cs.length:=by
    rw[dE]at hd;obtain⟨h,_⟩:=hd;omega
   have So:cs[i]?=some cs[i]:=aI hi;obtain⟨v',Cu,hr⟩:=hc i _ So;exact⟨v',Cu,ih _ _ _ (h2 i _ d So hd) hr⟩
  have old:p=false→∀(d:D) (v:Value),d.pure=true→aY (Mm M0 μ) w μ d v→aY Q w mu0 d v:=fun e d v Ff hr=>
   aY.mono (⟨aK _,fun _ _ _=>rfl,hp e⟩:Ext (Mm M0 μ) w Q w) d v (gJ.refl _) (aY.pure d v Ff hr)
  cases d<;>simp only[frz,reduceCtorEq]at hf
  case agg cs=>
   grind [aT,aY]
  case tup cs=>
   grind [aT,aY]
  case iface t d=>
   grind [aT,aY]
  case fn f a b=>
   grind [aC,aB,aD,aY]
  case ms nm off sz len cap=>
   simp only[aY]at hv;obtain⟨l,b,h1,h2,rfl,h3,h4⟩:=hv;have key:∀(blk:Blk) (cs:List D),sget x.s nm=some blk→eR blk=some cs →
     (bif Nat.ble (off+len*sz) cs.length then(((cs.drop off).take (len*sz)).mapM (frz p n x.s)).map (D.sl (Nat.beq cap len) len) else none)=some d'→aY Q w mu0 d' (.slice (some ⟨b,off,none⟩) len cap):=by
    intro blk cs hg hb hf;cases Ac:Nat.ble (off+len*sz) cs.length<;>rw[Ac]at hf
    ·cases hf
    simp only[bG,aT]at hf;obtain⟨ds,hm,rfl⟩:=hf;simp only[aY];have zQ:b<w.heap.size:=(h.own nm l b h1 h2).2;refine⟨_,_,rfl,h3,fun he=>bH he,.inr ⟨b,off,rfl,hq nm l b h1 h2,zQ,?_⟩⟩
    refine cells b off _ _ hm (fun i e hi=>?_)
    rw[List.getElem?_take]at hi;split at hi
    ·grind [uK]
    ·cases hi
   split at hf
   ·rename_i cs hg;exact key _ cs hg rfl hf
   ·rename_i cs hg;exact key _ cs hg rfl hf
   ·cases hf
  case gs nm off sz len=>
   simp only[aY]at hv;obtain⟨⟨lb,lc⟩,cap,h1,rfl,h3,h4,h5⟩:=hv;split at hf
   ·rename_i cs hg;cases Ac:Nat.ble (off+len*sz) cs.length<;>rw[Ac]at hf
    ·cases hf
    simp only[bG,aT]at hf;obtain⟨ds,hm,rfl⟩:=hf;simp only[aY];refine⟨_,_,rfl,h3,(fun he=>by simp at he),?_⟩
    cases lb with
    | none=>grind
    | some b=>
     have zQ:b<w.heap.size:=(h.own nm _ b h1 rfl).2;refine .inr ⟨b,off,rfl,hq nm _ b h1 rfl,zQ,cells b off _ _ hm (fun i e hi=>?_)⟩
     rw[List.getElem?_take]at hi;split at hi
     ·exact uK h hg rfl h1 rfl off i e hi
     ·cases hi
   ·cases hf
  case ptr nm off=>
   simp only[aY]at hv;obtain⟨l,b,h1,h2,rfl⟩:=hv;split at hf
   ·rename_i cs hg;simp only[aT]at hf;obtain⟨ds,hm,rfl⟩:=hf;have zQ:b<w.heap.size:=(h.own nm l b h1 h2).2;simp only[aY];refine⟨b,0,by simp,hq nm l b h1 h2,zQ,cells b 0 _ _ hm (fun i e hi=>?_)⟩
    exact uK h hg rfl h1 h2 0 i e (by simpa using hi)
   ·cases hf
  case sl ex len cs=>
   cases p
   ·cases hf;exact old rfl _ _ rfl hv
   ·cases hf
  case iptr cs off=>
   cases p
   ·cases hf;exact old rfl _ _ rfl hv
   ·cases hf
  all_goals (cases hf;first|exact aY.flat _ _ rfl hv|(simp only[aY]at hv ⊢;exact hv))
theorem frzs_rel(h:Rel E M0 w0 N μ a w x){p:Bool}{Q:Nat→Prop}(hq:∀nm l b,μ nm=some l→l.blk=some b→¬Q b)(hp:p=false→∀b,b<w.heap.size→Q b→Mm M0 μ b)
  {n:Nat} {ds az:List D} {vs:List Value} (hf:ds.mapM (frz p n x.s)=some az) (hv:bI (Mm M0 μ) w μ ds vs):bI Q w mu0 az vs:=by
 obtain⟨h1,h2⟩:=vA (R:=aY (Mm M0 μ) w μ) (R':=aY Q w mu0) hf hv.length (fun i c v hc Cu=>hv.at hc Cu) (fun c d v _ hf hr=>rN h hq hp n c d v hf hr)
 exact bI.mk h1 h2
end
mutual
theorem frz_pure{s:St}:∀(n:Nat) (d d':D),d.pure=true→frz false n s d=some d'→d'=d
 | 0,d,d',_,h=>by simp[frz]at h
 | n+1,d,d',hp,h=>by
  cases d<;>simp only[frz,reduceCtorEq,cO,aD]at h<;>simp only[D.pure,reduceCtorEq,cT]at hp
  case agg cs=>
   simp only[aT]at h;obtain⟨ds,hm,rfl⟩:=h;rw[oL n cs ds hp hm]
  case tup cs=>
   simp only[aT]at h;obtain⟨ds,hm,rfl⟩:=h;rw[oL n cs ds hp hm]
  case iface t d=>
   simp only[aT]at h;obtain⟨e,hm,rfl⟩:=h;rw[frz_pure n d e hp hm]
  case fn f a b=>
   simp only[bW]at hp;simp only[aC,aB,aD]at h;obtain⟨p',Ry,q',Hs,rfl⟩:=h;rw[oL n a p' hp.1 Ry,oL n b q' hp.2 Hs]
  all_goals exact h.symm
theorem oL{s:St}:∀(n:Nat) (ds az:List D),D.pures ds=true→ds.mapM (frz false n s)=some az→az=ds
 | n,[],az,_,h=>by grind
 | n,d::ds,az,hp,h=>by
  simp only[D.pures,bW]at hp;simp only[List.mapM_cons,aC,aB,Option.pure_def,aD]at h;obtain⟨e,h1,r,h2,rfl⟩:=h;rw[frz_pure n d e hp.1 h1,oL n ds r hp.2 h2]
end
def PureB(E:Env)(f:FuncId)(args:List D)(d:D)(fresh:Bool):Prop:=
 ∀(M:Nat→Prop) (w:World) (vals:List Value),(∀b,M b→b<w.heap.size)→GRel E M w→bI M w mu0 args vals →
  callable E.P f=true∧Calls E.P f vals.toArray w fun e w'=>∃v,e = .returned v∧aY M w' mu0 d v∧(fresh=true→aY (fun b=>b<w.heap.size) w' mu0 d v)∧w.heap.size≤w'.heap.size∧vJ w w' ∧
   ∀b,b<w.heap.size→w'.heap[b]?=w.heap[b]?
def pcall(o:List D→Option (D×Bool))(args:List D)(s:St)(c:Nat):FR:=
 match args.mapM (frz false 20 s) with
 | some fa=>match o fa with
  | some p=>bif p.2||(p.1.flat||D.pures args) then .ok (.ret p.1) s c else .no
  | none=>.no
 | none=>.no
theorem lW.mm_lt{E:Env}{M0:Nat→Prop}{w0:World}{μ:Mu}{w:World}{s:St}{c:Nat}(h:lW E M0 w0 μ w s c)(b:Nat)(hb:Mm M0 μ b):b<w.heap.size:=by
 rcases hb with hb|⟨nm,l,h1,h2⟩
 ·exact bY (h.m0lt b hb) h.size
 ·exact(h.own nm l b h1 h2).2
theorem sp_pcall{E:Env}{f:Nat}{o:List D→Option (D×Bool)}(ho:∀fa p,o fa=some p→PureB E f fa p.1 p.2):SpOK E f (pcall o):=by
 intro M0 w0 μ w s c args vals zR s' c' h hv hs;unfold pcall at hs;split at hs
 ·rename_i fa Yk;split at hs
  ·rename_i p hp;obtain⟨d,fresh⟩:=p;cases hc:(fresh||(d.flat||D.pures args))<;>simp only[hc,bG,cO,reduceCtorEq]at hs
   cases hs;have hB:=ho fa _ hp;have hm0:∀nm l b,μ nm=some l→l.blk=some b→¬M0 b:=fun nm l b h1 h2 hm=>by have:=h.m0lt b hm;have:=h.own nm l b h1 h2;omega
   have Cf:bI M0 w mu0 fa vals:=frzs_rel h hm0 (fun _ b _ hb=>.inl hb) Yk hv
   have Vs:∀b,M0 b→b<w.heap.size:=fun b hb=>bY (h.m0lt b hb) h.size
   have back:∀{v:Value} {w':World} {M:Nat→Prop},aY M w' mu0 d v→(∀b,b<w'.heap.size→Mm M0 μ b→M b)→aY (Mm M0 μ) w' μ d v:=fun {v w' M} hr hM=>
    aY.mono (⟨aK _,fun _ _ _=>rfl,hM⟩:Ext M w' (Mm M0 μ) w') d v (mu0_le μ) hr
   by_cases hf:fresh=true
   ·obtain⟨Js,Au⟩:=hB M0 w vals Vs h.globals0 Cf;refine⟨Js,Au.mono ?_⟩;rintro e w' ⟨v,rfl,_,zX,Ae,Ea,Ar⟩;obtain⟨hR,hF⟩:=Rel.more h Ae Ea Ar;exact⟨μ,hR,hF,v,rfl,back (zX hf) fun b _ hb=>h.mm_lt b hb⟩
   ·by_cases Bj:d.flat=true
    ·obtain⟨Js,Au⟩:=hB M0 w vals Vs h.globals0 Cf;refine⟨Js,Au.mono ?_⟩;rintro e w' ⟨v,rfl,Hl,_,Ae,Ea,Ar⟩;obtain⟨hR,hF⟩:=Rel.more h Ae Ea Ar;exact⟨μ,hR,hF,v,rfl,aY.flat d v Bj Hl⟩
    ·have Ff:D.pures args=true:=by
      cases e1:fresh
      ·cases e2:d.flat
       ·rw[e1,e2]at hc;simpa using hc
       ·exact absurd e2 Bj
      ·exact absurd e1 hf
     have hid:fa=args:=oL 20 _ _ Ff Yk;subst hid;have Ss:bI (Mm M0 μ) w mu0 fa vals:=bI.pure fa vals Ff hv;obtain⟨Js,Au⟩:=hB (Mm M0 μ) w vals h.mm_lt h.globals Ss;refine⟨Js,Au.mono ?_⟩;rintro e w' ⟨v,rfl,Hl,_,Ae,Ea,Ar⟩;obtain⟨hR,hF⟩:=Rel.more h Ae Ea Ar;exact⟨μ,hR,hF,v,rfl,back Hl fun b _ hb=>hb⟩
  ·cases hs
 ·cases hs
def pev(cx:Cx)(k m f:Nat)(args:List D):Option (D×Bool):=
 match zcall cx k (zN cx k m) f args st0 0 with
 | .ok (.ret r) s _=>match frz true 20 s r with
  | some d=>some (d,true)
  | none=>(frz false 20 s r).map fun d=>(d,false)
 | _=>none
theorem pev_sound{E:Env}{cx:Cx}(H:POK E cx){k m f:Nat}{args:List D}{p:D×Bool}(h:pev cx k m f args=some p):PureB E f args p.1 p.2:=by
 intro M w vals hM hG hv;unfold pev at h;split at h
 ·rename_i r s' c' hr;have hS:lW E M w mu0 w st0 0:=
   {size:=aK _,old:=fun _ _=>rfl,m0lt:=hM,defers:=by simp only[iR],n:=dM _,tm:=fun n=>by grind [xG,aY]
    st:=fun nm blk l hl=>by simp[mu0]at hl
    lt:=fun nm l hl=>by simp[mu0]at hl
    own:=fun nm l b hl=>by simp[mu0]at hl
    inj:=fun n m l l' b _ _ hl=>by simp[mu0]at hl
    glob:=hG,env:=⟨rfl,rfl⟩ }
  have hx:Ext M w (Mm M mu0) w:=⟨aK _,fun _ _ _=>rfl,fun b hb hm=>by
   rcases hm with hm|⟨nm,l,e,_⟩
   all_goals grind [mu0]⟩
  obtain⟨Js,hc⟩:=wY H.body (⟨(zn_ok H k m).1,H.meth,H.glob,H.mixed⟩:Ctx E cx (zN cx k m).fn) (zn_ok H k m).2 k hS (bI.mono hx _ _ (gJ.refl _) hv) hr;refine⟨Js,hc.mono ?_⟩;rintro e w' ⟨μ',Eu,hF,v,rfl,Hl⟩;have Mf:∀nm l b,μ' nm=some l→l.blk=some b→¬M b:=fun nm l b h1 h2 hm=>by have:=hM b hm;have:=(Eu.own nm l b h1 h2).1;omega
  have hnw:∀nm l b,μ' nm=some l→l.blk=some b→¬(b<w.heap.size):=fun nm l b h1 h2 hm=>by have:=(Eu.own nm l b h1 h2).1;omega
  have tail:w.heap.size≤w'.heap.size∧vJ w w'∧∀b,b<w.heap.size→w'.heap[b]?=w.heap[b]?:=⟨hF.size,Eu.env,fun b hb=>Eu.old b hb⟩
  split at h
  ·rename_i d hd;cases h;exact⟨v,rfl,rN Eu Mf (fun e=>by cases e) 20 r d v hd Hl,fun _=>rN Eu hnw (fun e=>by cases e) 20 r d v hd Hl,tail⟩
  ·rename_i hd;simp only[aT]at h;obtain⟨d,hd,rfl⟩:=h;exact⟨v,rfl,rN Eu Mf (fun _ b _ hb=>.inl hb) 20 r d v hd Hl,(fun e=>by cases e),tail⟩
 ·cases h
/-! How the calls of a run are told. -/
section
variable {B:Cx} {ps:Nat→Bool} {k m:Nat}
def pout(r:FR):Option (D×Bool):=match r with
 | .ok (.ret r) s _=>match frz true 20 s r with
  | some d=>some (d,true)
  | none=>(frz false 20 s r).map fun d=>(d,false)
 | _=>none
end
def zcond(v:D)(p q:R):R:=match v with
 | .bool r=>bif r then p else q
 | _=>.no
@[congr] theorem zcond_congr {v v':D} (h:v=v') (p q:R):zcond v p q=zcond v' p q:=by rw[h]
@[congr] theorem zbind_congr {r r':R} (h:r=r') (K:AS→R):zbind r K=zbind r' K:=by rw[h]
def lL(id:Nat)(r:R):R:=R.rec .no (zblk id) r
section
variable (cx:Cx) (cl:CL) (k:Nat) (x:AS)
theorem zC_cond(c:Arg)(a b:AC):zC (.cond c a b) cx cl k x=zcond (c.ev cx.G x.t) (zC a cx cl k x) (zC b cx cl k x):=by
 show wZ c a b (zC a) (zC b) cx cl k x=_;unfold wZ zcond;cases c.ev cx.G x.t<;>try rfl
 rename_i r;cases r<;>rfl
end
theorem fU:(∀(cx:Cx) (cl:CL) (k:Nat) (x:AS),zC .skip cx cl k x = .ok .normal x) ∧
  (∀(cx:Cx) (cl:CL) (k:Nat) (x:AS) (ops:List cR),zC (.reg none ops) cx cl k x=lM cx cl ops x) ∧
  (∀(cx:Cx) (cl:CL) (k:Nat) (x:AS) (a b:AC),zC (.seq a b) cx cl k x=zbind (zC a cx cl k x) (zC b cx cl k)) ∧
  (∀(cx:Cx) (cl:CL) (k:Nat) (x:AS) (c:Arg) (a b:AC),zC (.cond c a b) cx cl k x=zcond (c.ev cx.G x.t) (zC a cx cl k x) (zC b cx cl k x)) ∧
  (∀(cx:Cx) (cl:CL) (k:Nat) (x:AS) (i:Nat) (a:AC),zC (.block i a) cx cl k x=lL i (zC a cx cl k x)) ∧
  (∀(cx:Cx) (cl:CL) (k:Nat) (x:AS) (a:AC),zC (.loop a) cx cl k x=zloop k (zC a cx cl k) x) ∧
  (∀(cx:Cx) (cl:CL) (k:Nat) (x:AS) (i:Nat),zC (.exit i) cx cl k x = .ok (.exit i) x) ∧
  (∀(cx:Cx) (cl:CL) (k:Nat) (x:AS) (a:AC),zC (.scope a) cx cl k x=zC a cx cl k x) ∧
  (∀(cx:Cx) (cl:CL) (k:Nat) (x:AS),zC .ret cx cl k x = .ok .ret x) ∧
  (∀(p q:R),zcond (.bool true) p q=p)∧(∀(p q:R),zcond (.bool false) p q=q) ∧
  (∀(x:AS) (K:AS→R),zbind (.ok .normal x) K=K x)∧(∀(i:Nat) (x:AS) (K:AS→R),zbind (.ok (.exit i) x) K = .ok (.exit i) x) ∧
  (∀(x:AS) (K:AS→R),zbind (.ok .ret x) K = .ok .ret x)∧(∀(c:Ch) (x:AS) (K:AS→R),zbind (.ok (.pan c) x) K = .ok (.pan c) x) ∧
  (∀(K:AS→R),zbind .no K = .no) ∧
  (∀(i:Nat) (x:AS),lL i (.ok .normal x) = .ok .normal x)∧(∀(i:Nat) (x:AS),lL i (.ok .ret x) = .ok .ret x)∧(∀(i:Nat) (c:Ch) (x:AS),lL i (.ok (.pan c) x) = .ok (.pan c) x) ∧
  (∀(i j:Nat) (x:AS),lL i (.ok (.exit j) x)=if j=i then .ok .normal x else .ok (.exit j) x) ∧
  (∀(cx:Cx) (cl:CL) (x:AS),lM cx cl [] x = .ok .normal x) ∧
  (∀(cx:Cx) (cl:CL) (x:AS) (dst:Option Nat) (op:AOp) (r:List cR),lM cx cl (⟨dst,op,none⟩::r) x=zbind (zOp cx cl ⟨dst,op,none⟩ x) (lM cx cl r)):=by
 refine⟨fun _ _ _ _=>rfl,fun _ _ _ _ _=>rfl,fun _ _ _ _ _ _=>rfl,zC_cond,fun _ _ _ _ _ _=>rfl,fun _ _ _ _ _=>rfl,fun _ _ _ _ _=>rfl,fun _ _ _ _ _=>rfl,fun _ _ _ _=>rfl,
  fun _ _=>rfl,fun _ _=>rfl,fun _ _=>rfl,fun _ _ _=>rfl,fun _ _=>rfl,fun _ _ _=>rfl,fun _=>rfl,fun _ _=>rfl,fun _ _=>rfl,fun _ _ _=>rfl,fun i j x=>?_,fun _ _ _=>rfl,fun _ _ _ _ _ _=>rfl⟩
 show(Bool.rec (.ok (.exit j) x) (.ok .normal x) (Nat.beq j i):R)=_;by_cases h:j=i
 ·subst h;simp
 ·rw[aG h,jH h]
theorem sC:(∀cx cl dst g x a0,zOp cx cl ⟨dst,.mv a0,g⟩ x=zval dst (st_mv a0 cx.G x)) ∧
  (∀cx cl dst g x a0 a1 a2,zOp cx cl ⟨dst,.pick a0 a1 a2,g⟩ x=zval dst (pD a0 a1 a2 cx.G x)) ∧
  (∀cx cl dst g x a0 a1,zOp cx cl ⟨dst,.new a0 a1,g⟩ x=zval dst (sS a0 a1 cx.G x)) ∧
  (∀cx cl dst g x a0 a1,zOp cx cl ⟨dst,.ld a0 a1,g⟩ x=zval dst (st_ld a0 a1 cx.G x)) ∧
  (∀cx cl dst g x a0 a1 a2,zOp cx cl ⟨dst,.st a0 a1 a2,g⟩ x=zval dst (st_st a0 a1 a2 cx.G x)) ∧
  (∀cx cl dst g x a0 a1,zOp cx cl ⟨dst,.fa a0 a1,g⟩ x=zval dst (st_fa a0 a1 cx.G x)) ∧
  (∀cx cl dst g x a0 a1 a2 a3,zOp cx cl ⟨dst,.iaA a0 a1 a2 a3,g⟩ x=zval dst (tB a0 a1 a2 a3 cx.G x)) ∧
  (∀cx cl dst g x a0 a1 a2,zOp cx cl ⟨dst,.iaS a0 a1 a2,g⟩ x=zval dst (tA a0 a1 a2 cx.G x)) ∧
  (∀cx cl dst g x a0 a1 a2 a3 a4,zOp cx cl ⟨dst,.ixA a0 a1 a2 a3 a4,g⟩ x=zval dst (sZ a0 a1 a2 a3 a4 cx.G x)) ∧
  (∀cx cl dst g x a0 a1,zOp cx cl ⟨dst,.ixS a0 a1,g⟩ x=zval dst (sY a0 a1 cx.G x)) ∧
  (∀cx cl dst g x a0 a1 a2,zOp cx cl ⟨dst,.fld a0 a1 a2,g⟩ x=zval dst (qX a0 a1 a2 cx.G x)) ∧
  (∀cx cl dst g x a0 a1,zOp cx cl ⟨dst,.ext a0 a1,g⟩ x=zval dst (tC a0 a1 cx.G x)) ∧
  (∀cx cl dst g x a0 a1 a2,zOp cx cl ⟨dst,.bin a0 a1 a2,g⟩ x=zval dst (tH a0 a1 a2 cx.G x)) ∧
  (∀cx cl dst g x a0 a1 a2 a3,zOp cx cl ⟨dst,.cmp a0 a1 a2 a3,g⟩ x=zval dst (tE a0 a1 a2 a3 cx.G x)) ∧
  (∀cx cl dst g x a0 a1,zOp cx cl ⟨dst,.un a0 a1,g⟩ x=zval dst (st_un a0 a1 cx.G x)) ∧
  (∀cx cl dst g x a0 a1,zOp cx cl ⟨dst,.bld a0 a1,g⟩ x=zval dst (tG a0 a1 cx.G x)) ∧
  (∀cx cl dst g x a0 a1 a2 a3,zOp cx cl ⟨dst,.bsl a0 a1 a2 a3,g⟩ x=zval dst (tF a0 a1 a2 a3 cx.G x)) ∧
  (∀cx cl dst g x a0 a1 a2 a3 a4,zOp cx cl ⟨dst,.mks a0 a1 a2 a3 a4,g⟩ x=zval dst (sU a0 a1 a2 a3 a4 cx.G x)) ∧
  (∀cx cl dst g x a0 a1 a2,zOp cx cl ⟨dst,.slS a0 a1 a2,g⟩ x=zval dst (sQ a0 a1 a2 cx.G x)) ∧
  (∀cx cl dst g x a0 a1 a2 a3 a4,zOp cx cl ⟨dst,.slV a0 a1 a2 a3 a4,g⟩ x=zval dst (sP a0 a1 a2 a3 a4 cx.G x)) ∧
  (∀cx cl dst g x a0 a1 a2 a3 a4 a5,zOp cx cl ⟨dst,.slA a0 a1 a2 a3 a4 a5,g⟩ x=zval dst (kR a0 a1 a2 a3 a4 a5 cx.G x)) ∧
  (∀cx cl dst g x a0 a1,zOp cx cl ⟨dst,.len a0 a1,g⟩ x=zval dst (sX a0 a1 cx.G x)) ∧
  (∀cx cl dst g x a0,zOp cx cl ⟨dst,.cap a0,g⟩ x=zval dst (rA a0 cx.G x)) ∧
  (∀cx cl dst g x a0 a1 a2 a3 a4,zOp cx cl ⟨dst,.app a0 a1 a2 a3 a4,g⟩ x=zval dst (tI a0 a1 a2 a3 a4 cx.G x)) ∧
  (∀cx cl dst g x a0 a1 a2,zOp cx cl ⟨dst,.copy a0 a1 a2,g⟩ x=zval dst (jJ a0 a1 a2 cx.G x)) ∧
  (∀cx cl dst g x a0 a1,zOp cx cl ⟨dst,.cvI a0 a1,g⟩ x=zval dst (pW a0 a1 cx.G x)) ∧
  (∀cx cl dst g x a0,zOp cx cl ⟨dst,.cvN a0,g⟩ x=zval dst (tD a0 cx.G x)) ∧
  (∀cx cl dst g x a0,zOp cx cl ⟨dst,.cvB a0,g⟩ x=zval dst (qZ a0 cx.G x)) ∧
  (∀cx cl dst g x a0,zOp cx cl ⟨dst,.cvS a0,g⟩ x=zval dst (pV a0 cx.G x)) ∧
  (∀cx cl dst g x a0 a1,zOp cx cl ⟨dst,.mkif a0 a1,g⟩ x=zval dst (pG a0 a1 cx.G x)) ∧
  (∀cx cl dst g x a0 a1 a2,zOp cx cl ⟨dst,.mkfn a0 a1 a2,g⟩ x=zval dst (pH a0 a1 a2 cx.G x)) ∧
  (∀cx cl dst g x a0,zOp cx cl ⟨dst,.nilc a0,g⟩ x=zval dst (pE a0 cx.G x)) ∧
  (∀cx cl dst g x a0,zOp cx cl ⟨dst,.rng a0,g⟩ x=zval dst (sR a0 cx.G x)) ∧
  (∀cx cl dst g x a0,zOp cx cl ⟨dst,.next a0,g⟩ x=zval dst (pF a0 cx.G x)) ∧
  (∀cx cl dst g x a0 a1 a2,zOp cx cl ⟨dst,.mm a0 a1 a2,g⟩ x=zval dst (st_mm a0 a1 a2 cx.G x)) ∧
  (∀cx cl dst g x ,zOp cx cl ⟨dst,.mkm ,g⟩ x=zval dst (qW  cx.G x)) ∧
  (∀cx cl dst g x a0 a1 a2 a3 a4,zOp cx cl ⟨dst,.mlk a0 a1 a2 a3 a4,g⟩ x=zval dst (qV a0 a1 a2 a3 a4 cx.G x)) ∧
  (∀cx cl dst g x a0 a1 a2 a3,zOp cx cl ⟨dst,.mup a0 a1 a2 a3,g⟩ x=zval dst (qT a0 a1 a2 a3 cx.G x)) ∧
  (∀cx cl dst g x a0 a1 a2 a3,zOp cx cl ⟨dst,.men a0 a1 a2 a3,g⟩ x=zval dst (sV a0 a1 a2 a3 cx.G x)) ∧
  (∀cx cl dst g x a0 a1 a2,zOp cx cl ⟨dst,.mst a0 a1 a2,g⟩ x=zval dst (sT a0 a1 a2 cx.G x)) ∧
  (∀cx cl dst g x a0,zOp cx cl ⟨dst,.mln a0,g⟩ x=zval dst (qU a0 cx.G x)) ∧
  (∀cx cl dst g x a0,zOp cx cl ⟨dst,.rgm a0,g⟩ x=zval dst (qR a0 cx.G x)) ∧
  (∀cx cl dst g x a0,zOp cx cl ⟨dst,.nxm a0,g⟩ x=zval dst (qS a0 cx.G x)) ∧
  (∀cx cl dst g x a0,zOp cx cl ⟨dst,.ent a0,g⟩ x=zval dst (qY a0 cx.G x)) ∧
  (∀cx cl dst g x a0 a1 a2 a3,zOp cx cl ⟨dst,.tas a0 a1 a2 a3,g⟩ x=zval dst (qQ a0 a1 a2 a3 cx.G x)) ∧
  (∀cx cl dst g x a0 a1 a2,zOp cx cl ⟨dst,.tai a0 a1 a2,g⟩ x=zval dst (sO a0 a1 a2 cx.G x)) ∧
  (∀cx cl dst g x a0 a1,zOp cx cl ⟨dst,.xl a0 a1,g⟩ x=zval dst (xN a0 a1 cx.G x)) ∧
  (∀cx cl dst g x a0 a1,zOp cx cl ⟨dst,.xa a0 a1,g⟩ x=zval dst (st_xa a0 a1 cx.G x)):=by
 refine⟨?_,?_,?_,?_,?_,?_,?_,?_,?_,?_,?_,?_,?_,?_,?_,?_,?_,?_,?_,?_,?_,?_,?_,?_,?_,?_,?_,?_,?_,?_,?_,?_,?_,?_,?_,?_,?_,?_,?_,?_,?_,?_,?_,?_,?_,?_,?_,?_⟩<;>intros<;>rfl
def iJ(sz:Nat)(d i:D):Option D:=match d with
 | .sl _ len cs=>(iF len i).map fun k=>.iptr cs (k*sz)
 | .ms nm off z len _=>(iF len i).bind fun k=>bif Nat.beq z sz then some (.ptr nm (off+k*sz)) else none
 | .gs nm off z len=>(iF len i).bind fun k=>bif Nat.beq z sz then some (.ptr nm (off+k*sz)) else none
 | _=>none
def pX(sz:Nat)(d:D)(l h m:Option D):Option D:=match d with
  | .nils=>do
   let m ←gH 0 0 m
   let h ←gH m 0 h
   let _ ←gH h 0 l
   some .nils
  | .sl ex len cs=>do
   let m' ←gH len len m
   let h' ←gH m' len h
   let l' ←gH h' 0 l
   bif Nat.ble (h'*sz) cs.length then
    some (.sl ((m.isSome&&Nat.beq m' h')||(m.isNone&&ex&&Nat.beq h' len)) (h'-l') ((cs.drop (l'*sz)).take ((h'-l')*sz)))
   else none
  | .ms nm off z len c=>do
   let m ←gH c c m
   let h ←gH m len h
   let l ←gH h 0 l
   bif Nat.beq z sz then some (.ms nm (bif Nat.beq m l then off else off+l*sz) z (h-l) (m-l)) else none
  | .gs nm off z len=>match m with
   | none=>do
    let h ←gH len len h
    let l ←gH h 0 l
    bif Nat.beq z sz then
     (bif Nat.beq l 0 then some (.gs nm off z h) else bif Nat.blt l h then some (.gs nm (off+l*sz) z (h-l)) else some (.sl false 0 []))
    else none
   | some m=>do
    let m ←vH len m
    let h ←gH m len h
    let l ←gH h 0 l
    bif Nat.beq z sz&&Nat.blt 0 len then some (.ms nm (bif Nat.beq m l then off else off+l*sz) z (h-l) (m-l)) else none
  | _=>none
theorem st_iaS_eq(sz:Nat)(a i:Arg)(G:List (Nat×List D))(x:AS):tA sz a i G x=(iJ sz (a.ev G x.t) (i.ev G x.t)).map fun d=>(d,x):=by
 unfold tA iJ;cases a.ev G x.t<;>dsimp only<;>try rfl
 ·rename_i ex len cs;cases iF len (i.ev G x.t)<;>rfl
 ·rename_i nm off z len c;cases iF len (i.ev G x.t)<;>try rfl
  grind
 ·rename_i nm off z len;cases iF len (i.ev G x.t)<;>try rfl
  grind
theorem st_slV_eq(sz:Nat)(a:Arg)(l h m:Option Arg)(G:List (Nat×List D))(x:AS):sP sz a l h m G x=(pX sz (a.ev G x.t) (l.map (·.ev G x.t)) (h.map (·.ev G x.t)) (m.map (·.ev G x.t))).map fun d=>(d,x):=by
 unfold sP pX;cases a.ev G x.t<;>dsimp only<;>try rfl
 ·cases gH 0 0 (m.map (·.ev G x.t))<;>try rfl
  rename_i m';simp only[aC,bE];cases gH m' 0 (h.map (·.ev G x.t))<;>try rfl
  rename_i h';simp only[bE];cases gH h' 0 (l.map (·.ev G x.t))<;>rfl
 ·rename_i ex len cs;cases gH len len (m.map (·.ev G x.t))<;>try rfl
  rename_i m';simp only[aC,bE];cases gH m' len (h.map (·.ev G x.t))<;>try rfl
  rename_i h';simp only[bE];cases gH h' 0 (l.map (·.ev G x.t))<;>try rfl
  grind
 ·rename_i nm off z len c;cases gH c c (m.map (·.ev G x.t))<;>try rfl
  rename_i m';simp only[aC,bE];cases gH m' len (h.map (·.ev G x.t))<;>try rfl
  rename_i h';simp only[bE];cases gH h' 0 (l.map (·.ev G x.t))<;>try rfl
  grind
 ·rename_i nm off z len;cases m with
  | none=>
   simp only[Option.map_none];cases gH len len (h.map (·.ev G x.t))<;>try rfl
   rename_i h';simp only[aC,bE];cases gH h' 0 (l.map (·.ev G x.t))<;>try rfl
   grind
  | some m=>
   simp only[bR];cases vH len (m.ev G x.t)<;>try rfl
   rename_i m';simp only[aC,bE];cases gH m' len (h.map (·.ev G x.t))<;>try rfl
   rename_i h';simp only[bE];cases gH h' 0 (l.map (·.ev G x.t))<;>try rfl
   grind
theorem sB:type_of% @st_mv.eq_1∧type_of% @pD.eq_1∧type_of% @sS.eq_1∧type_of% @st_ld.eq_1∧type_of% @st_st.eq_1∧type_of% @st_fa.eq_1∧type_of% @tB.eq_1∧type_of% @st_iaS_eq∧type_of% @sZ.eq_1∧type_of% @sY.eq_1∧type_of% @qX.eq_1∧type_of% @tC.eq_1∧type_of% @tH.eq_1∧type_of% @tE.eq_1∧type_of% @st_un.eq_1∧type_of% @tG.eq_1∧type_of% @tF.eq_1∧type_of% @sU.eq_1∧type_of% @sQ.eq_1∧type_of% @st_slV_eq∧type_of% @kR.eq_1∧type_of% @sX.eq_1∧type_of% @rA.eq_1∧type_of% @tI.eq_1∧type_of% @jJ.eq_1∧type_of% @pW.eq_1∧type_of% @tD.eq_1∧type_of% @qZ.eq_1∧type_of% @pV.eq_1∧type_of% @pG.eq_1∧type_of% @pH.eq_1∧type_of% @pE.eq_1∧type_of% @sR.eq_1∧type_of% @pF.eq_1∧type_of% @st_mm.eq_1∧type_of% @qW.eq_1∧type_of% @qV.eq_1∧type_of% @qT.eq_1∧type_of% @sV.eq_1∧type_of% @sT.eq_1∧type_of% @qU.eq_1∧type_of% @qR.eq_1∧type_of% @qS.eq_1∧type_of% @qY.eq_1∧type_of% @qQ.eq_1∧type_of% @sO.eq_1∧type_of% @xN.eq_1∧type_of% @st_xa.eq_1:=
 ⟨@st_mv.eq_1,@pD.eq_1,@sS.eq_1,@st_ld.eq_1,@st_st.eq_1,@st_fa.eq_1,@tB.eq_1,@st_iaS_eq,@sZ.eq_1,@sY.eq_1,@qX.eq_1,@tC.eq_1,@tH.eq_1,@tE.eq_1,@st_un.eq_1,@tG.eq_1,@tF.eq_1,@sU.eq_1,@sQ.eq_1,@st_slV_eq,@kR.eq_1,@sX.eq_1,@rA.eq_1,@tI.eq_1,@jJ.eq_1,@pW.eq_1,@tD.eq_1,@qZ.eq_1,@pV.eq_1,@pG.eq_1,@pH.eq_1,@pE.eq_1,@sR.eq_1,@pF.eq_1,@st_mm.eq_1,@qW.eq_1,@qV.eq_1,@qT.eq_1,@sV.eq_1,@sT.eq_1,@qU.eq_1,@qR.eq_1,@qS.eq_1,@qY.eq_1,@qQ.eq_1,@sO.eq_1,@xN.eq_1,@st_xa.eq_1⟩
theorem aA:(∀(dst:Option Nat) (d:D) (y:AS),zval dst (some (d,y)) = .ok .normal ⟨iO dst y.t d,y.s,y.c,y.d,y.r⟩)∧(∀(dst:Option Nat),zval dst none = .no) ∧
  (∀(n:Nat) (t:Tm) (d:D),iO (some n) t d=tput t n d)∧(∀(t:Tm) (d:D),iO none t d=t) ∧
  (∀(n:Nat) (G:List (Nat×List D)) (t:Tm),(Arg.t n).ev G t=tget t n)∧(∀(d:D) (G:List (Nat×List D)) (t:Tm),(Arg.c d).ev G t=d)∧(∀(n:Nat) (G:List (Nat×List D)) (t:Tm),(Arg.f n).ev G t = .fn (.func n) [] []) ∧
  (∀(t:Tm) (n m:Nat) (d:D),tget (tput t n d) m=if m=n then d else tget t m) ∧
  (∀(s:St) (n m:Nat) (b:Blk),sget (sset s n b) m=if m=n then some b else sget s m)∧(∀(s:St) (n m:Nat) (b:Blk),sget (sadd s n b) m=if m=n then some b else sget s m) ∧
  (∀(G:List (Nat×List D)) (t:Tm),evs [] G t=[])∧(∀(G:List (Nat×List D)) (t:Tm) (a:Arg) (l:List Arg),evs (a::l) G t=a.ev G t::evs l G t) ∧
  (∀(x:AS) (b:Blk),x.add b=⟨x.t,sadd x.s x.c b,x.c+1,x.d,x.r⟩) ∧
  (∀(cx:Cx) (cl:CL) (dst:Option Nat) (g:Option (Nat×Bool)) (x:AS) (f:Nat) (l:List Arg),zOp cx cl ⟨dst,.call f l,g⟩ x=back dst x (cl (.fn f) (evs l cx.G x.t) x.s x.c)) ∧
  (∀(dst:Option Nat) (x:AS) (d:D) (s:St) (c:Nat),back dst x (.ok (.ret d) s c) = .ok .normal ⟨iO dst x.t d,s,c,x.d,x.r⟩) ∧
  (∀(dst:Option Nat) (x:AS) (ch:Ch) (s:St) (c:Nat),back dst x (.ok (.pan ch) s c) = .ok (.pan ch) ⟨x.t,s,c,x.d,x.r⟩):=by
 refine⟨fun _ _ _=>rfl,fun _=>rfl,fun _ _ _=>rfl,fun _ _=>rfl,fun _ _ _=>rfl,fun _ _ _=>rfl,fun _ _ _=>rfl,fun t n m d=>nB t n d m,fun s n m b=>aU s n m b,fun s n m b=>aZ s n m b,fun _ _=>rfl,fun _ _ _ _=>rfl,fun _ _=>rfl,fun _ _ _ _ _ _ _=>rfl,fun _ _ _ _ _=>rfl,fun _ _ _ _ _=>rfl⟩
theorem rQ:(∀(k:IntKind) (x y:Int),kN .add (.int k x) (.int k y)=some (.int k (bX k (x+y))))∧(∀(k:IntKind) (x y:Int),kN .sub (.int k x) (.int k y)=some (.int k (bX k (x-y)))) ∧
  (∀(k:IntKind) (x y:Int),kN .mul (.int k x) (.int k y)=some (.int k (bX k (x*y)))) ∧
  (∀(k:IntKind) (x y:Int),kN .eql (.int k x) (.int k y)=some (.bool (decide (x=y))))∧(∀(k:IntKind) (x y:Int),kN .neq (.int k x) (.int k y)=some (.bool (decide (x≠y)))) ∧
  (∀(k:IntKind) (x y:Int),kN .lss (.int k x) (.int k y)=some (.bool (decide (x<y))))∧(∀(k:IntKind) (x y:Int),kN .leq (.int k x) (.int k y)=some (.bool (decide (x≤y)))) ∧
  (∀(k:IntKind) (x y:Int),kN .gtr (.int k x) (.int k y)=some (.bool (decide (y<x))))∧(∀(k:IntKind) (x y:Int),kN .geq (.int k x) (.int k y)=some (.bool (decide (y≤x)))):=by
 grind [kN,intD]
theorem ex_end:(∀(df:Nat→List D→eU→St→Nat→DR) (A:AF) (t:Tm) (s:St) (c:Nat) (r:Option Nat),zbody df A (.ok .ret ⟨t,s,c,[],r⟩)=(match results A ⟨t,s,c,[],r⟩ with|some d=>.ok (.ret d) s c|none=>.no)) ∧
  (∀(df:Nat→List D→eU→St→Nat→DR) (A:AF) (t:Tm) (s:St) (c:Nat) (r:Option Nat),zbody df A (.ok .normal ⟨t,s,c,[],r⟩)=(match results A ⟨t,s,c,[],r⟩ with|some d=>.ok (.ret d) s c|none=>.no)) ∧
  (∀(np:Nat) (b:AC) (x:AS),results ⟨np,b,[]⟩ x=some (.tup [])) ∧
  (∀(np:Nat) (b:AC) (x:AS) (v:RV),results ⟨np,b,[v]⟩ x=v.get x) ∧
  (∀(np:Nat) (b:AC) (x:AS) (v w:RV),results ⟨np,b,[v,w]⟩ x=(v.get x).bind fun a=>(w.get x).map fun b=>.tup [a,b]) ∧
  (∀(np:Nat) (b:AC) (x:AS) (v w u:RV),results ⟨np,b,[v,w,u]⟩ x=(v.get x).bind fun a=>(w.get x).bind fun b=>(u.get x).map fun c=>.tup [a,b,c]) ∧
  (∀(np:Nat) (b:AC) (x:AS) (v w u p:RV),results ⟨np,b,[v,w,u,p]⟩ x=(v.get x).bind fun a=>(w.get x).bind fun b=>(u.get x).bind fun c=>(p.get x).map fun d=>.tup [a,b,c,d]) ∧
  (∀(x:AS) (n:Nat),(RV.tmp n).get x=some (tget x.t n)) ∧
  (∀(x:AS) (n:Nat) (sz:Option Nat),(RV.cell n sz).get x=(seen x.s (tget x.t n)).bind fun p=>cX p.1 p.2 sz):=by
 refine⟨fun _ _ _ _ _ _=>rfl,fun _ _ _ _ _ _=>rfl,fun _ _ _=>rfl,fun np b x v=>?_,fun np b x v w=>?_,fun np b x v w u=>?_,fun np b x v w u p=>?_,fun _ _=>rfl,fun _ _ _=>rfl⟩ <;>
  simp only[results,List.mapM_cons,List.mapM_nil,aC,Option.pure_def]
 ·cases v.get x<;>rfl
 ·cases v.get x<;>try rfl
  cases w.get x<;>rfl
 ·cases v.get x<;>try rfl
  cases w.get x<;>try rfl
  cases u.get x<;>rfl
 ·cases v.get x<;>try rfl
  cases w.get x<;>try rfl
  cases u.get x<;>try rfl
  cases p.get x<;>rfl
/-! Guards; regions in an open order. -/
def zgd(v:D)(w:Bool)(p q:R):R:=match v with
 | .bool b=>bif b==w then p else q
 | .tup []=>q
 | _=>.no
@[congr] theorem zgd_congr {v v':D} (h:v=v') (w:Bool) (p q:R):zgd v w p q=zgd v' w p q:=by rw[h]
theorem zOps_g(cx:Cx)(cl:CL)(dst:Option Nat)(op:AOp)(g:Nat)(w:Bool)(r:List cR)(x:AS):
  lM cx cl (⟨dst,op,some (g,w)⟩::r) x=zgd (tget x.t g) w (zbind (zOp cx cl ⟨dst,op,some (g,w)⟩ x) (lM cx cl r)) (lM cx cl r ⟨iO dst x.t (.tup []),x.s,x.c,x.d,x.r⟩):=by
 show(Option.rec .no (uR ⟨dst,op,some (g,w)⟩ (fun cx cl x=>lM cx cl r x) cx cl x) (wanted ⟨dst,op,some (g,w)⟩ x):R)=_
 unfold wanted zgd;simp only;cases tget x.t g<;>try rfl
 ·rename_i b;cases b<;>cases w<;>rfl
 ·rename_i cs;cases cs<;>rfl
def zlk(dst:Option Nat)(x:AS)(r:Option (D×AS))(Ti:D→Bool)(K:AS→R):R:=match r with
 | some p=>bif Ti p.1 then K ⟨iO dst x.t p.1,x.s,x.c,x.d,x.r⟩else .no
 | none=>.no
@[congr] theorem zlk_congr (dst:Option Nat) (x:AS) {r r':Option (D×AS)} (h:r=r') (Ti:D→Bool) (K:AS→R):zlk dst x r Ti K=zlk dst x r' Ti K:=by rw[h]
def zall(dst:Option Nat)(x:AS)(nm:Nat)(r:Option ((Nat→D)×Blk))(old:List St)(K:AS→R):R:=match r with
 | some p=>bif old.all (fun s=>(sget s nm).isNone) then K ⟨iO dst x.t (p.1 nm),sadd x.s nm p.2,x.c,x.d,x.r⟩else .no
 | none=>.no
@[congr] theorem zall_congr (dst:Option Nat) (x:AS) (nm:Nat) {r r':Option ((Nat→D)×Blk)} (h:r=r') (old:List St) (K:AS→R):zall dst x nm r old K=zall dst x nm r' old K:=by rw[h]
def zac(r:R)(Ap:Bool)(K:AS→R):R:=match r with
 | .ok .normal y=>K y
 | .ok (.pan ch) y=>bif Ap then .ok (.pan ch) y else .no
 | _=>.no
@[congr] theorem zac_congr {r r':R} (h:r=r') (Ap:Bool) (K:AS→R):zac r Ap K=zac r' Ap K:=by rw[h]
theorem fX(cx:Cx)(cl:CL)(c0:Nat)(i k:Nat)(dst:Option Nat)(op:AOp)(r:List (Nat×Nat×cR))(hist:List St)(x:AS):
  sL cx cl c0 ((i,k,⟨dst,op,none⟩)::r) hist x=(match op.kd with
   | 0=>zlk dst x (step cx.G op x) (fun d=>(hist.take k).all (bP cx.G op x d)) (sL cx cl c0 r hist)
   | 1=>zall dst x (c0+i) (dC cx.G op x.t) (x.s::hist.take k) (sL cx cl c0 r hist)
   | 2=>zac (zOp cx cl ⟨dst,op,none⟩ x) (r.all fun f=>Nat.beq f.2.1 0) (sL cx cl c0 r (x.s::hist))
   | _=>.no):=by
 show mD cx cl c0 (i,k,⟨dst,op,none⟩) r (fun h x=>sL cx cl c0 r h x) hist x=_
 unfold mD;have hw:wanted (i,k,(⟨dst,op,none⟩:cR)).2.2 x=some true:=rfl
 grind [step,zlk,dC,zall,zac,zOp]
theorem iY(cx:Cx)(cl:CL)(c0:Nat)(i k:Nat)(dst:Option Nat)(op:AOp)(g:Nat)(w:Bool)(r:List (Nat×Nat×cR))(hist:List St)(x:AS):
  sL cx cl c0 ((i,k,⟨dst,op,some (g,w)⟩)::r) hist x=zgd (tget x.t g) w (sL cx cl c0 ((i,k,⟨dst,op,none⟩)::r) hist x)
   (sL cx cl c0 r (bif Nat.beq op.kd 2 then x.s::hist else hist) ⟨iO dst x.t (.tup []),x.s,x.c,x.d,x.r⟩):=by
 have h1:∀b:Bool,sL cx cl c0 ((i,k,⟨dst,op,none⟩)::r) hist x=mD cx cl c0 (i,k,⟨dst,op,none⟩) r (fun h x=>sL cx cl c0 r h x) hist x:=fun _=>rfl
 show mD cx cl c0 (i,k,⟨dst,op,some (g,w)⟩) r (fun h x=>sL cx cl c0 r h x) hist x=_
 rw[h1 true];unfold mD zgd;simp only[wanted];cases tget x.t g<;>try rfl
 ·rename_i b;cases b<;>cases w<;>rfl
 grind
theorem ex_any:(∀(cx:Cx) (cl:CL) (k:Nat) (x:AS) (ord:List (Nat×Nat)) (ops:List cR),zC (.reg (some ord) ops) cx cl k x=sL cx cl x.c (dR ord ops) [] ⟨cN (dR ord ops) x.t,x.s,x.c+ops.length,x.d,x.r⟩) ∧
  (∀(cx:Cx) (cl:CL) (c0:Nat) (hist:List St) (x:AS),sL cx cl c0 [] hist x = .ok .normal x) ∧
  (∀(dst:Option Nat) (x y:AS) (d:D) (Ti:D→Bool) (K:AS→R),zlk dst x (some (d,y)) Ti K=bif Ti d then K ⟨iO dst x.t d,x.s,x.c,x.d,x.r⟩else .no) ∧
  (∀(dst:Option Nat) (x:AS) (nm:Nat) (p:(Nat→D)×Blk) (old:List St) (K:AS→R),zall dst x nm (some p) old K=bif old.all (fun s=>(sget s nm).isNone) then K ⟨iO dst x.t (p.1 nm),sadd x.s nm p.2,x.c,x.d,x.r⟩else .no) ∧
  (∀(y:AS) (l:Bool) (K:AS→R),zac (.ok .normal y) l K=K y)∧(∀(y:AS) (ch:Ch) (l:Bool) (K:AS→R),zac (.ok (.pan ch) y) l K=bif l then .ok (.pan ch) y else .no) ∧
  (∀(b:Bool) (p q:R),zgd (.bool b) true p q=zcond (.bool b) p q)∧(∀(b:Bool) (p q:R),zgd (.bool b) false p q=zcond (.bool b) q p)∧(∀(w:Bool) (p q:R),zgd (.tup []) w p q=q):=by
 refine⟨fun _ _ _ _ _ _=>rfl,fun _ _ _ _ _=>rfl,fun _ _ _ _ _ _=>rfl,fun _ _ _ _ _ _=>rfl,fun _ _ _=>rfl,fun _ _ _ _=>rfl,fun b _ _=>by cases b<;>rfl,fun b _ _=>by cases b<;>rfl,fun _ _ _=>rfl⟩
end
end Zv
namespace Zv
open Go
mutual
def D.dp:D→Bool
 | .agg cs=>D.dps cs
 | .tup cs=>D.dps cs
 | .sl _ _ cs=>D.dps cs
 | .iptr cs _=>D.dps cs
 | .ms ..=>false
 | .gs ..=>false
 | .ptr ..=>false
 | .it ..=>false
 | .iface _ d=>D.dp d
 | .fn _ a b=>D.dps a&&D.dps b
 | _=>true
def D.dps:List D→Bool
 | []=>true
 | d::r=>D.dp d&&D.dps r
end
inductive TY where
 | bool
 | int (k:IntKind)
 | str
 | sl (l:List TY)
def tyFs(P:Program)(g:TypeId→Option (List TY)):List Field→Nat→Option (List TY)
 | [],_=>some []
 | f::r,off=>if f.offset=off then
   (g f.type).bind fun l=>if l.length=P.cellsOf f.type then(tyFs P g r (off+l.length)).map (l ++ ·) else none
  else none
def tyOf(P:Program):Nat→TypeId→Option (List TY)
 | 0,_=>none
 | n+1,t=>match P.underlying t with
  | some .bool=>some [.bool]
  | some (.int k)=>some [.int k]
  | some .string=>some [.str]
  | some (.slice e)=>(tyOf P n e).bind fun l=>if l.length=P.cellsOf e∧0<l.length then some [.sl l]else none
  | some (.struct fs)=>(tyFs P (tyOf P n) fs.toList 0).bind fun l=>if l.length=P.cellsOf t then some l else none
  | some (.array m e)=>(tyOf P n e).bind fun l=>if l.length=P.cellsOf e∧m*l.length=P.cellsOf t then some (List.replicate m l).flatten else none
  | _=>none
mutual
def TY.ok:TY→D→Prop
 | .bool,d=>∃b,d = .bool b
 | .int k,d=>∃n,d = .int k n∧k.min≤n∧n≤k.max
 | .str,d=>∃s,d = .str s∧s.length≤maxLen
 | .sl l,d=>d = .nils∨∃rows:List (List D),d = .sl false rows.length rows.flatten∧rows.length≤maxLen∧∀r∈rows,TY.oks l r
def TY.oks:List TY→List D→Prop
 | [],ds=>ds=[]
 | t::ts,ds=>∃d r,ds=d::r∧TY.ok t d∧TY.oks ts r
end
theorem TY.oks_length:∀{l:List TY} {ds:List D},TY.oks l ds→ds.length=l.length
 | [],ds,h=>by grind [TY.oks]
 | t::ts,ds,h=>by
  simp only[TY.oks]at h;obtain⟨d,r,rfl,_,h⟩:=h;simp[TY.oks_length h]
theorem TY.oks_append:∀{l l':List TY} {ds Iv:List D},TY.oks l ds→TY.oks l' Iv→TY.oks (l++l') (ds++Iv)
 | [],l',ds,Iv,h,h'=>by grind [TY.oks]
 | t::ts,l',ds,Iv,h,h'=>by
  simp only[TY.oks]at h;obtain⟨d,r,rfl,hd,h⟩:=h;simp only[cA,TY.oks];exact⟨d,_,rfl,hd,TY.oks_append h h'⟩
def NoM:Nat→Prop:=fun _=>False
section
variable {H:Type} {enc:TypeId×Value→H} {P:Program} {w:World} {base:Nat} {Hy:Nat→Bool} {Mr:Bool}
theorem bI.nth{M:Nat→Prop}{μ:Mu}:∀{ds:List D} {vs:List Value} (i:Nat) (d:D),bI M w μ ds vs→ds[i]?=some d→∃v,vs[i]?=some v∧aY M w μ d v
 | [],vs,i,d,h,hd=>by simp at hd
 | e::ds,vs,i,d,h,hd=>by
  simp only[bI]at h;obtain⟨v,r,rfl,hv,h⟩:=h;cases i with
  | zero=>grind
  | succ i=>simpa using bI.nth i d h (by simpa using hd)
theorem wI:∀{a b:List D},D.dps a=true→D.dps b=true→D.dps (a++b)=true
 | [],b,_,h=>h
 | d::a,b,h,h'=>by
  simp only[D.dps,cA,bW]at h ⊢;exact⟨h.1,wI h.2 h'⟩
mutual
def dOf{H:Type}:DataW H→List D
 | .lit (.bool b)=>[.bool b]
 | .lit (.int k n)=>[.int k n]
 | .lit (.string s)=>[.str s]
 | .slice xs _=>[.sl false xs.length (dOfs xs)]
 | .agg xs=>dOfs xs
 | _=>[.nils]
def dOfs{H:Type}:List (DataW H)→List D
 | []=>[]
 | x::r=>dOf x++dOfs r
end
def pS(w:World)(l:List TY)(cs:List Value)(ds:List D):Prop:=bI NoM w mu0 ds cs∧D.dps ds=true∧TY.oks l ds
theorem pS.append{l l':List TY}{cs cs':List Value}{ds Iv:List D}(h:pS w l cs ds)(h':pS w l' cs' Iv):pS w (l++l') (cs++cs') (ds++Iv):=
 ⟨bI.append h.1 h'.1,wI h.2.1 h'.2.1,TY.oks_append h.2.2 h'.2.2⟩
theorem pS.nil:pS w [] [] []:=⟨by simp[bI],rfl,by simp[TY.oks]⟩
theorem reads_fs{g:TypeId→Option (List TY)}{cs:List Value}:∀(fs:List Field) (xs:List (DataW H×List MemPlace)) (off:Nat) (L:List TY),tyFs P g fs off=some L→xs.length=fs.length →
  (∀(i:Nat) f y,fs[i]?=some f→xs[i]?=some y→∀l,g f.type=some l→pS w l ((cs.drop f.offset).take (P.cellsOf f.type)) (dOf y.1))→pS w L ((cs.drop off).take L.length) (dOfs (xs.map (·.1)))
 | [],xs,off,L,h,hl,hh=>by
  grind [tyFs,aD,eM,dOfs,pS.nil]
 | f::r,[],off,L,h,hl,hh=>by simp at hl
 | f::r,x::xs,off,L,h,hlx,hh=>by
  simp only[tyFs]at h;split at h
  ·rename_i ho;simp only[aB]at h;obtain⟨l,hl,h⟩:=h;split at h
   ·rename_i hc;simp only[aT]at h;obtain⟨L',h',rfl⟩:=h;have h1:=hh 0 f x rfl rfl l hl;have h2:=reads_fs r xs _ L' h' (by grind) (fun i f y hf hy=>hh (i+1) f y (by simpa using hf) (by simpa using hy))
    rw[←hc,ho]at h1;have:=h1.append h2
    grind [dZ,List.drop_drop,dOfs]
   ·cases h
  ·cases h
theorem reads_rep{l:List TY}{cs:List Value}:∀(m off:Nat) (xs:List (DataW H×List MemPlace)),xs.length=m→(∀(i:Nat) y,xs[i]?=some y→pS w l ((cs.drop (off+i*l.length)).take l.length) (dOf y.1)) →
  pS w (List.replicate m l).flatten ((cs.drop off).take (m*l.length)) (dOfs (xs.map (·.1)))
 | 0,off,xs,hl,hh=>by
  grind [eM,dOfs,pS.nil]
 | m+1,off,[],hl,hh=>by simp at hl
 | m+1,off,x::xs,hl,hh=>by
  have h1:=hh 0 x rfl;have h2:=reads_rep (l:=l) (cs:=cs) m (off+l.length) xs (by simpa using hl) (fun i y hi=>by
   have:=hh (i+1) y (by simpa using hi)
   rwa [Nat.add_mul,Nat.one_mul,Nat.add_comm (i*l.length),←Nat.add_assoc]at this)
  rw[eA,Nat.add_zero]at h1;have:=h1.append h2;rw[List.replicate_succ,dO,Nat.add_mul,Nat.one_mul,Nat.add_comm (m*l.length),List.take_add,List.drop_drop]
  grind [dOfs]
theorem dOfs_rows:∀(xs:List (DataW H×List MemPlace)),dOfs (xs.map (·.1))=(xs.map fun y=>dOf y.1).flatten
 | []=>rfl
 | x::xs=>by simp[dOfs,dOfs_rows xs]
theorem iK.append{M:Nat→Prop}{b:Nat}:∀{ds Iv:List D} {o:Nat},iK M w b o ds→iK M w b (o+ds.length) Iv→iK M w b o (ds++Iv)
 | [],Iv,o,h,h'=>by simpa using h'
 | d::ds,Iv,o,h,h'=>by
  simp only[iK,cA]at h ⊢;refine⟨h.1,iK.append h.2 ?_⟩
  grind
theorem iK.rows{M:Nat→Prop}{b c:Nat}:∀{rows:List (List D)} {o:Nat},(∀(i:Nat) (r:List D),rows[i]?=some r→r.length=c∧iK M w b (o+i*c) r)→iK M w b o rows.flatten
 | [],o,h=>by simp[iK]
 | r::rows,o,h=>by
  rw[dO];obtain⟨h1,h2⟩:=h 0 r rfl;rw[eA,Nat.add_zero]at h2;refine iK.append h2 (iK.rows (c:=c) fun i r' hr=>?_)
  obtain⟨h3,h4⟩:=h (i+1) r' (by simpa using hr)
  grind
theorem dps_flatten:∀{rows:List (List D)},(∀r∈rows,D.dps r=true)→D.dps rows.flatten=true
 | [],_=>rfl
 | r::rows,h=>by
  rw[dO];exact wI (h r (by simp)) (dps_flatten fun r hr=>h r (by simp[hr]))
theorem cell_spot{a:Addr}{v:Value}(h:w.cell? a=some v):a.spot=none∧a.block<w.heap.size:=by
 unfold World.cell? at h;split at h
 ·rename_i c _ _ he;by_cases hs:a.spot.isSome=true
  ·simp[hs]at h
  ·exact⟨by simpa using hs,(Array.getElem?_eq_some_iff.1 he).1⟩
 ·cases h
theorem cells_crel{b o n:Nat}{vs:List Value}{ds:List D}(h:w.cells? base ⟨b,o,none⟩ n=some vs)(hv:bI NoM w mu0 ds vs):iK NoM w b o ds:=by
 unfold World.cells? at h;split at h
 ·refine iK.mk fun i d hd=>?_
  obtain⟨v,h1,h2⟩:=bI.nth i d hv hd;have hn:i<n:=by
   have:=mapM_some_length h;have:=(dE.1 h1).1
   simp_all
  have h3:=mapM_some_get h i i (by simp[hn])
  grind [Addr.add_lit]
 ·cases h
theorem cells_spot{a:Addr}{n:Nat}{vs:List Value}(h:w.cells? base a n=some vs)(hn:0<n):a.spot=none∧a.block<w.heap.size:=by
 unfold World.cells? at h;split at h
 ·have h3:=mapM_some_get h 0 0 (by simp[hn])
  obtain⟨v,hv⟩:∃v,vs[0]?=some v:=by
   have:=mapM_some_length h;exact⟨vs[0]'(by simp_all),by simp⟩
  rw[hv]at h3;exact cell_spot h3
 ·cases h
theorem xU:∀(m fuel:Nat) (t:TypeId) (l:List TY) (cs:List Value) (x:DataW H×List MemPlace),DataW.trod enc P w base Hy Mr fuel t cs=some x→tyOf P m t=some l→pS w l cs (dOf x.1)
 | 0,fuel,t,l,cs,x,h,ht=>by simp[tyOf]at ht
 | m+1,fuel,t,l,cs,x,h,ht=>by
  unfold tyOf at ht;split at ht
  ·rename_i hu;cases ht;obtain⟨b,rfl,rfl⟩:=DataW.trod_bool hu h;exact⟨by simp[dOf,bI,aY],rfl,by simp[dOf,TY.oks,TY.ok]⟩
  ·rename_i k hu;cases ht;obtain⟨n,rfl,rfl,hw⟩:=DataW.trod_int hu h;simp only[Lit.wf,bW,bZ]at hw;exact⟨by simp[dOf,bI,aY],rfl,by simp[dOf,TY.oks,TY.ok,hw]⟩
  ·rename_i hu;cases ht;obtain⟨s,rfl,rfl,hs⟩:=DataW.trod_string hu h;exact⟨by simp[dOf,bI,aY],rfl,by simp_all [dOf,TY.oks,TY.ok]⟩
  ·rename_i e hu;simp only[aB]at ht;obtain⟨l',Dx,ht⟩:=ht;split at ht
   ·rename_i hc;cases ht;rcases DataW.trod_slice hu h with⟨rfl,rfl⟩|⟨a,len,cap,elems,rest,n,rfl,rfl,rfl,hb,hlc,Yo,Gh,hi,_⟩
    ·exact⟨by simp[dOf,bI,aY],rfl,by simp[dOf,TY.oks,TY.ok]⟩
    ·rcases Nat.eq_zero_or_pos len with e0|e0
     ·subst e0;obtain rfl:elems=[]:=eM Gh;refine⟨?_,rfl,?_⟩
      ·grind [dOf,dOfs,bI,aY]
      ·simp only[dOf,TY.oks,TY.ok];exact⟨_,_,rfl,.inr ⟨[],rfl,by simp,by simp⟩,rfl⟩
     ·have Tu:a.spot=none∧a.block<w.heap.size:=by
       have h1:=hi 0 e0;obtain⟨y,hy⟩:∃y,elems[0]?=some y:=⟨elems[0]'(by omega),by simp⟩
       rw[hy,aB]at h1;obtain⟨vs,hv,h1⟩:=h1;rw[eA]at hv;exact cells_spot (a:=a.add 0) hv (by omega)
      obtain⟨ab,ao,asp⟩:=a;simp only at Tu;obtain⟨rfl,Hv⟩:=Tu;have Cb:∀(i:Nat) r,(elems.map fun y=>dOf y.1)[i]?=some r→TY.oks l' r∧D.dps r=true∧iK NoM w ab (ao+i*P.cellsOf e) r:=fun i r hr=>by
       rw[List.getElem?_map,aT]at hr;obtain⟨y,hy,rfl⟩:=hr;have h1:=hi i (by grind)
       rw[hy,aB]at h1;obtain⟨vs,hv,h1⟩:=h1;obtain⟨Fx,Fb,hd3⟩:=xU m n e l' vs y h1 Dx
       grind [Addr.add_lit,cells_crel]
      simp only[dOf,dOfs_rows,dB];refine⟨?_,?_,?_⟩
      ·simp only[bI,aY];refine⟨_,_,rfl,⟨_,cap,by rw[Gh],by omega,by simp,.inr ⟨ab,ao,rfl,id,Hv,iK.rows (c:=P.cellsOf e) fun i r hir=>?_⟩⟩,rfl⟩
       grind [TY.oks_length]
      ·grind [D.dps,D.dp,dps_flatten,List.mem_iff_getElem?]
      grind [TY.oks,TY.ok,dOf,List.mem_iff_getElem?]
   ·cases ht
  ·rename_i fs hu;simp only[aB]at ht;obtain⟨L,hL,ht⟩:=ht;split at ht
   ·rename_i hc;cases ht;obtain⟨xs,n,rfl,rfl,zU,hxl,hf⟩:=DataW.trod_struct hu h;have:=reads_fs (w:=w) (P:=P) (g:=tyOf P m) (cs:=cs) fs.toList xs 0 l hL (by omega) (fun i f y hfm hy l' Dx=>by
     have h1:=hf i f (by grind)
     rw[hy]at h1;exact xU m n f.type l' _ y h1 Dx)
    grind [cS,dOf]
   ·cases ht
  ·rename_i k e hu;simp only[aB]at ht;obtain⟨l',Dx,ht⟩:=ht;split at ht
   ·rename_i hc;cases ht;obtain⟨xs,n,rfl,rfl,zU,hxl,hf⟩:=DataW.trod_array hu h;have:=reads_rep (w:=w) (l:=l') (cs:=cs) k 0 xs hxl (fun i y hy=>by
     have h1:=hf i (by grind)
     rw[hy]at h1;rw[bM,hc.1];exact xU m n e l' _ y h1 Dx)
    grind [cS,dOf]
   ·cases ht
  ·cases ht
end
end Zv
