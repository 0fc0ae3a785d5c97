/- Calls: deferred ones, and those of functions. Conditions: none. -/
import Derived.Test.YtoefcncofakjkaaGreatDoorCG
set_option linter.unusedSimpArgs false
set_option linter.unusedVariables false
namespace Zv
open Go
section
variable {E:Env} {cx:Cx} {cl:CL} {M0:Nat→Prop} {w0:World} {N:Nat} {μ:Mu} {M:Nat→Prop} {a:Act} {w:World} {x:AS} {b:Frame} {k:List Item} {cs:List Frame}
theorem back_code {r:R} {out:Out} {y:AS} {md md':ZMode} (h:(match r with | .ok o y=>RS.ok o y md | .no => .no) = .ok out y md'):r = .ok out y∧md'=md:=by
 cases r with
 | no=>cases h
 | ok o z=>cases h; exact ⟨rfl,rfl⟩
theorem blockS_did {c:Code} {id:Nat} {c0:Frame} {r:RS} {out:Out} {y:AS} {md':ZMode}
  (hs:(match r with | .ok (.exit i) y m=>bif Nat.beq i (2*id) then RS.ok .normal y m else .ok (.exit i) y m|r=>r) = .ok out y md')
  (hbody:∀ o z m,r = .ok o z m→DidS E M0 w0 N μ w x (lone (fat b a (.code c :: .inBlock id::k)) (c0::cs) w) b (.inBlock id::k) c0 cs o z m) :
  DidS E M0 w0 N μ w x (lone (fat b a (.code (.block id c)::k)) (c0::cs) w) b k c0 cs out y md':=by
 refine DidS.of_steps (.one fstep_block) ?_
 cases r with
 | no=>cases hs
 | ok o z m=>
  obtain ⟨a',w',μ',ou,u',r1,r2,r3,r4,r5,r6⟩:=hbody o z m rfl
  cases o with
  | normal=>
   cases hs; cases r4
   exact ⟨a',w',μ',.normal,u',r1,r2,r3,rfl,r5,Steps.trans r6 (.one fstep_inBlock)⟩
  | exit i=>
   cases r4
   obtain ⟨todo,t1,t2⟩:=r6
   simp only at hs
   cases hb:Nat.beq i (2*id) <;> rw [hb] at hs
   ·cases hs
    have hne:i≠2*id:=fun e=>by subst e; simp at hb
    exact ⟨a',w',μ',.exit i,u',r1,r2,r3,rfl,r5,todo,t1.trans (jumpTo_block_ne hne k),t2⟩
   ·cases hs
    have:=Nat.eq_of_beq_eq_true hb
    subst this
    exact ⟨a',w',μ',.normal,u',r1,r2,r3,rfl,r5,Steps.trans t2 (.one (fstep_exit (t1.trans (jumpTo_block id k))))⟩
  | ret=>
   cases hs; cases r4
   exact ⟨a',w',μ',.ret,u',r1,r2,r3,rfl,r5,r6⟩
  | pan c=>
   cases hs
   obtain ⟨ch,rfl,hc⟩:=r4
   exact ⟨a',w',μ',.pan ch,u',r1,r2,r3,⟨ch,rfl,hc⟩,r5,r6⟩
theorem stuck_noS (cx:Cx) (cl:CL) (fuel:Nat) (x:AS) (md:ZMode):zS cx cl fuel stuckC x md = .no:=by
 simp only [stuckC,zS]
 rfl
theorem codeS_did (H:Ctx E cx cl) (hk:b.kind = .deferred) (hro:b.roundOf=none):∀ (c:Code) {ac:AC},comp E.P N c=some ac→∀ {fuel:Nat} {μ:Mu} {a:Act} {w:World} {x:AS} {md:ZMode} {c0:Frame} {k:List Item} {out:Out} {y:AS} {md':ZMode},
  Rel E M0 w0 N μ a w x→x.r=none→MRel (Mm M0 μ) w μ md c0.mode→zS cx cl fuel ac x md = .ok out y md'→DidS E M0 w0 N μ w x (lone (fat b a (.code c::k)) (c0::cs) w) b k c0 cs out y md':=by
 intro c
 have fall:∀ (c:Code) {ac:AC},comp E.P N c=some ac→∀ {fuel:Nat} {μ:Mu} {a:Act} {w:World} {x:AS} {md:ZMode} {c0:Frame} {k:List Item} {out:Out} {y:AS} {md':ZMode},
   Rel E M0 w0 N μ a w x→x.r=none→MRel (Mm M0 μ) w μ md c0.mode→(bif ac.noRcv then (match zC ac cx cl fuel x with | .ok o y=>RS.ok o y md | .no => .no) else .no) = .ok out y md' →
   DidS E M0 w0 N μ w x (lone (fat b a (.code c::k)) (c0::cs) w) b k c0 cs out y md':=by
  intro c ac hc fuel μ a w x md c0 k out y md' h hr hm hs
  cases hn:ac.noRcv <;> rw [hn] at hs
  ·cases hs
  ·obtain ⟨h1,rfl⟩:=back_code hs
   exact (code_did H c hc h (by rw [hr]; exact hro) h1).toS h hm
 induction c with
 | region id ops draw=>
  intro ac hc fuel μ a w x md c0 k out y md' h hr hm hs
  cases draw with
  | true=>
   have hc':=hc
   simp only [comp,Option.bind_eq_bind,Option.bind_eq_some_iff] at hc
   obtain ⟨l,hl,hc⟩:=hc
   simp only [cond_true] at hc
   cases hok:(orderOK ops.size (ancs ops.toList []) l (mkOrder (ancs ops.toList []) (l.map fun o=>o.op.kd)) 0 [] []&&Nat.ble ops.size (mkOrder (ancs ops.toList []) (l.map fun o=>o.op.kd)).length) <;> rw [hok] at hc
   ·cases hc
   ·simp only [cond_true,Option.some.injEq] at hc
    subst hc
    simp only [zS] at hs
    exact fall _ hc' (fuel:=fuel) h hr hm hs
  | false=>
   simp only [comp,Option.bind_eq_bind,Option.bind_eq_some_iff] at hc
   obtain ⟨l,hl,hc⟩:=hc
   simp only [cond_false,Option.some.injEq] at hc
   subst hc
   simp only [zS] at hs
   refine DidS.of_steps (.one fstep_region) (opsS_did H hk hro h hr hm ?_ hl hs)
   apply List.ext_getElem?
   intro j
   simp only [List.getElem?_map,List.getElem?_range]
   by_cases hj:j<ops.size
   ·simp [hj]
   ·simp [hj]
 | seq p q ihp ihq=>
  intro ac hc fuel μ a w x md c0 k out y md' h hr hm hs
  simp only [comp,Option.bind_eq_bind,Option.bind_eq_some_iff,Option.some.injEq] at hc
  obtain ⟨p',hp,q',hq,rfl⟩:=hc
  simp only [zS] at hs
  refine DidS.of_steps (.one fstep_seq) ?_
  cases hz:zS cx cl fuel p' x md with
  | no=>rw [hz] at hs; cases hs
  | ok o z m=>
   rw [hz] at hs
   have hD:=ihp hp (k := .code q::k) h hr hm hz
   by_cases hn:o = .normal
   ·subst hn
    exact hD.bind fun a' w' μ' u' g1 g2 g3 g4=>ihq hq g1 (g3.trans hr) g4 hs
   ·have:RS.ok o z m = .ok out y md':=by cases o <;> first|exact absurd rfl hn|exact hs
    cases this
    exact hD.pass (fun _=>rfl) hn
 | cond c p q ihp ihq=>
  intro ac hc fuel μ a w x md c0 k out y md' h hr hm hs
  simp only [comp,Option.bind_eq_bind,Option.bind_eq_some_iff,Option.some.injEq] at hc
  obtain ⟨c',hcc,rfl⟩:=hc
  simp only [zS] at hs
  have hv:=arg_rel h hcc
  rw [H.glob] at hs
  split at hs
  ·rename_i r he
   rw [he] at hv
   simp only [VRel] at hv
   refine DidS.of_steps (.one (fstep_cond hv)) ?_
   cases r with
   | true=>
    have hs2:zS cx cl fuel (orStuck (comp E.P N p)) x md = .ok out y md':=hs
    cases hp:comp E.P N p with
    | none=>rw [hp] at hs2; cases (stuck_noS cx cl fuel x md).symm.trans hs2
    | some p'=>rw [hp] at hs2; exact ihp hp h hr hm hs2
   | false=>
    have hs2:zS cx cl fuel (orStuck (comp E.P N q)) x md = .ok out y md':=hs
    cases hq:comp E.P N q with
    | none=>rw [hq] at hs2; cases (stuck_noS cx cl fuel x md).symm.trans hs2
    | some q'=>rw [hq] at hs2; exact ihq hq h hr hm hs2
  ·cases hs
 | block id p ih=>
  intro ac hc fuel μ a w x md c0 k out y md' h hr hm hs
  simp only [comp,Option.bind_eq_bind,Option.bind_eq_some_iff,Option.some.injEq] at hc
  obtain ⟨p',hp,rfl⟩:=hc
  simp only [zS] at hs
  exact blockS_did (r:=zS cx cl fuel p' x md) hs fun o z m hz=>ih hp h hr hm hz
 | scope p ih=>
  intro ac hc fuel μ a w x md c0 k out y md' h hr hm hs
  have hc':=hc
  simp only [comp,Option.bind_eq_bind,Option.bind_eq_some_iff,Option.some.injEq] at hc
  obtain ⟨p',hp,rfl⟩:=hc
  simp only [zS] at hs
  cases hl:labsAC p' with
  | nil=>
   rw [hl] at hs
   simp only [wrapAC] at hs
   refine DidS.of_steps (.one fstep_scope) ?_
   have hD:=ih hp (k := .inScope p::k) h hr hm hs
   by_cases ho:out = .normal
   ·subst ho
    refine hD.bind fun a' w' μ' u' g1 g2 g3 g4 => ?_
    exact ⟨a',w',μ',.normal,u',g1,Fr.refl _ _ _ _,rfl,rfl,g4,.one fstep_inScope⟩
   ·refine hD.pass (fun i=>jumpTo_scope (fun l _ => ?_) k) ho
    cases hf:findLabel p l with
    | none=>rfl
    | some z=>
     have:=(lab_of p hp hf).1
     rw [hl] at this; cases this
  | cons n ns=>
   rw [hl] at hs hc'
   cases hrr:restAC p' n with
   | none=>
    simp only [wrapAC,hrr] at hs
    cases (stuck_noS cx cl fuel x md).symm.trans hs
   | some r=>
    simp only [wrapAC,hrr] at hs hc'
    simp only [zS] at hs
    exact fall _ hc' (fuel:=fuel) h hr hm hs
 | skip=>
  intro ac hc fuel μ a w x md c0 k out y md' h hr hm hs
  have hc':=hc
  simp only [comp,Option.some.injEq] at hc; subst hc
  simp only [zS] at hs
  exact fall _ hc' (fuel:=fuel) h hr hm hs
 | label l=>
  intro ac hc fuel μ a w x md c0 k out y md' h hr hm hs
  have hc':=hc
  simp only [comp,Option.some.injEq] at hc; subst hc
  have h1:zC (.block (2*l+1) .skip) cx cl fuel x = .ok .normal x:=rfl
  have h2:zS cx cl fuel (.block (2*l+1) .skip) x md = .ok .normal x md:=by
   simp only [zS]
   rfl
  rw [h2] at hs
  cases hs
  exact (code_did H _ hc' h (by rw [hr]; exact hro) h1).toS h hm
 | loop p ih=>
  intro ac hc fuel μ a w x md c0 k out y md' h hr hm hs
  have hc':=hc
  simp only [comp,Option.bind_eq_bind,Option.bind_eq_some_iff,Option.some.injEq] at hc
  obtain ⟨p',hp,rfl⟩:=hc
  simp only [zS] at hs
  exact fall _ hc' (fuel:=fuel) h hr hm hs
 | exit id=>
  intro ac hc fuel μ a w x md c0 k out y md' h hr hm hs
  have hc':=hc
  simp only [comp,Option.some.injEq] at hc; subst hc
  simp only [zS] at hs
  exact fall _ hc' (fuel:=fuel) h hr hm hs
 | ret=>
  intro ac hc fuel μ a w x md c0 k out y md' h hr hm hs
  have hc':=hc
  simp only [comp,Option.some.injEq] at hc; subst hc
  simp only [zS] at hs
  exact fall _ hc' (fuel:=fuel) h hr hm hs
 | rangeFunc f ps p q ihp ihq=>
  intro ac hc fuel μ a w x md c0 k out y md' h hr hm hs
  have hc':=hc
  simp only [comp,Option.bind_eq_bind,Option.bind_eq_some_iff] at hc
  obtain ⟨g,hg,p',hp,q',hq,hc⟩:=hc
  cases hps:(ps.toList.all fun p=>Nat.blt p N) <;> rw [hps] at hc
  ·cases hc
  ·simp only [cond_true,Option.some.injEq] at hc
   subst hc
   simp only [zS] at hs
   exact fall _ hc' (fuel:=fuel) h hr hm hs
 | goto l=>
  intro ac hc fuel μ a w x md c0 k out y md' h hr hm hs
  have hc':=hc
  simp only [comp,Option.some.injEq] at hc; subst hc
  simp only [zS] at hs
  exact fall _ hc' (fuel:=fuel) h hr hm hs
 | refuse s=>intro ac hc; simp [comp] at hc
end
def afterD (o:FO) (m:ZMode):ZMode:=match o with
 | .ret _=>settle m
 | .pan ch=>raised m ch
def DefOK (E:Env) (df:Nat→List D→ZMode→St→Nat→DR):Prop:=
 ∀ {M0:Nat→Prop} {w0:World} {μ:Mu} {w:World} {s:St} {c f:Nat} {args:List D} {vals:List Value} {m:ZMode} {o:FO} {m':ZMode} {s':St} {c':Nat},
  SRel E M0 w0 μ w s c→VRels (Mm M0 μ) w μ args vals→df f args m s c = .ok o m' s' c'→callable E.P f=true ∧
  ∀ (c0:Frame) (cs:List Frame),MRel (Mm M0 μ) w μ m c0.mode→∃ w' μ' u',Steps E.P (lone (Frame.enter E.P f vals.toArray .deferred) (c0::cs) w) (lone { c0 with mode:=u' } cs w')∧SRel E M0 w0 μ' w' s' c'∧Fr c s μ w c' s' μ' w' ∧
   MRel (Mm M0 μ') w' μ' (afterD o m') u'
structure TOK (E:Env) (cx:Cx):Prop where
 body:∀ f A,cx.T f=some A→callable E.P f=true∧∃ fn,E.P.funcs[f]?=some fn∧compF E.P fn=some A
theorem compF_spec {P:Program} {fn:Func} {A:AF} (h:compF P fn=some A):∃ c,fn.body=some c∧comp P fn.ntmps c=some A.body∧fn.results.toList.mapM (compRes P)=some A.res:=by
 simp only [compF,Option.bind_eq_bind,Option.bind_eq_some_iff] at h
 obtain ⟨c,h1,b,h2,r,h3,h⟩:=h
 cases hc:Nat.beq fn.nfree 0 <;> rw [hc] at h <;> simp only [cond_true,cond_false,Option.some.injEq] at h <;> subst h <;> exact ⟨c,h1,h2,h3⟩
section
variable {E:Env} {cx:Cx} {M0:Nat→Prop} {w0:World} {N:Nat} {μ:Mu} {M:Nat→Prop} {a:Act} {w:World} {x:AS} {cs:List Frame}
theorem Rel.kill (h:Rel E M0 w0 N μ a w x) (nm:Nat) (l:Loc) (b:Nat) {w':World} (hl:μ nm=some l) (hlb:l.blk=some b) (hlive:(sget x.s nm).isSome=true)
  (hsz:w'.heap.size=w.heap.size) (hheap:∀ k,k≠b→w'.heap[k]?=w.heap[k]?) (he:Env0 w w':=by exact ⟨rfl,rfl⟩) :
  Ext (Mm M0 μ) w (Mm M0 μ) w'∧Rel E M0 w0 N μ a w' ⟨x.t,sdel x.s nm,x.c,x.d,x.r⟩∧Fr x.c x.s μ w x.c (sdel x.s nm) μ w':=by
 have hM:=h.isM hl hlb
 have hx:Ext (Mm M0 μ) w (Mm M0 μ) w':=⟨by omega,fun k _ hk=>hheap k fun e=>hk (e ▸ hM),fun _ _ hm=>hm⟩
 have hi:∀ n bk,sget (sdel x.s nm) n=some bk→n≠nm∧sget x.s n=some bk:=fun n bk hn=>by
  rw [sget_sdel] at hn
  by_cases e:n=nm
  ·rw [if_pos e] at hn; cases hn
  ·rw [if_neg e] at hn; exact ⟨e,hn⟩
 refine ⟨hx,{h with
  size:=by have:=h.size; omega
  old:=fun k hk=>by rw [hheap k fun e=>by have:=h.own nm l b hl hlb; omega]; exact h.old k hk
  env:=⟨he.1.trans h.env.1,he.2.trans h.env.2⟩
  defers:=DfRel.mono hx (muLe.refl _) h.defers
  tm:=fun n=>VRel.mono hx _ _ (muLe.refl _) (h.tm n)
  own:=fun nm l b h1 h2=>by rw [hsz]; exact h.own nm l b h1 h2
  lt:=h.lt
  inj:=fun n m l l' b s1 s2=>by
   obtain ⟨b1,hb1⟩:=Option.isSome_iff_exists.1 s1
   obtain ⟨b2,hb2⟩:=Option.isSome_iff_exists.1 s2
   exact h.inj n m l l' b (by rw [(hi n b1 hb1).2]; rfl) (by rw [(hi m b2 hb2).2]; rfl)
  st:=fun k bk lk hlk hk=>by
   obtain ⟨hkn,hk⟩:=hi k bk hk
   refine BRel.mono hx (muLe.refl _) (fun l' b' hl' hlb'=>⟨hheap b' fun e => ?_,id⟩) (h.st k bk lk hlk hk)
   subst e
   exact hkn (h.inj k nm l' l b' (by rw [hk]; rfl) hlive hl' hl hlb' hlb) },
  ⟨by omega,fun k hk hn=>hheap k fun e=>hn (e ▸ ⟨nm,l,hlive,hl,hlb⟩),fun k _ ⟨n,l,h1,h2,h3⟩=>by
   obtain ⟨b1,hb1⟩:=Option.isSome_iff_exists.1 h1
   exact ⟨n,l,by rw [(hi n b1 hb1).2]; rfl,h2,h3⟩,muLe.refl μ,Nat.le_refl _,fun _ _ h=>h,nonew⟩⟩
theorem step_mark {P:Program} {fr:Frame} {w w':World} {blk:Nat} {args:Array Value} {ds calls:List Deferred} (hm:fr.mode ≠ .run) (hd:fr.defers={ target := .collected blk,args:=args }::ds) (hr:(Instr.takeDeferred blk).run P w = .ok calls w') :
  Go.step P (lone fr cs w) = .next (lone { fr with defers:=calls++ds } cs w'):=by
 refine step_lone_go ?_
 cases hmode:fr.mode with
 | run=>exact absurd hmode hm
 | returning=>simp [stepG,unwind,hmode,hd,hr]
 | panicking chain=>simp [stepG,unwind,hmode,hd,hr]
theorem ds_did {df:Nat→List D→ZMode→St→Nat→DR} (hdf:DefOK E df):∀ (d:List (D × List D)) {m:ZMode} {s:St} {c:Nat} {m':ZMode} {s':St} {c':Nat} {ds:List Deferred} {fr:Frame} {μ:Mu} {w:World},
  zDs df d m s c = .ok m' s' c'→SRel E M0 w0 μ w s c→DfRel (Mm M0 μ) w μ d ds→MRel (Mm M0 μ) w μ m fr.mode→fr.defers=ds →
  ∃ w' μ' u',Steps E.P (lone fr cs w) (lone { fr with defers:=[],mode:=u' } cs w')∧SRel E M0 w0 μ' w' s' c'∧Fr c s μ w c' s' μ' w'∧MRel (Mm M0 μ') w' μ' m' u':=by
 intro d
 induction d with
 | nil=>
  intro m s c m' s' c' ds fr μ w hs h hd hm hf
  simp only [zDs,DS.ok.injEq] at hs
  obtain ⟨rfl,rfl,rfl⟩:=hs
  simp only [DfRel] at hd
  subst hd
  refine ⟨w,μ,fr.mode,?_,h,Fr.refl _ _ _ _,hm⟩
  have:({ fr with defers:=[],mode:=fr.mode }:Frame)=fr:=by rw [←hf]
  rw [this]; exact .refl _ _
 | cons p r ih=>
  intro m s c m' s' c' ds fr μ w hs h hd hm hf
  obtain ⟨g,args⟩:=p
  cases g
  case fn fv fs cap=>
   cases fv with
   | func f=>
    simp only [zDs] at hs
    unfold DfRel at hd
    obtain ⟨fn,first,capv,av,r',h1,h2,rfl,h3⟩:=hd
    simp only [VRel] at h1
    obtain ⟨va,vb,he,e1,e2⟩:=h1
    cases he
    cases hz:df f (fs++args++cap) m s c with
    | no=>rw [hz] at hs; cases hs
    | ok o m1 s1 c1=>
     rw [hz] at hs
     have hargs:VRels (Mm M0 μ) w μ (fs++args++cap) ((first++av)++capv).toList:=by
      simp only [Array.toList_append]
      exact (e1.append h2).append e2
     obtain ⟨hcal,hrun⟩:=hdf h hargs hz
     have hstep:=step_defer (P:=E.P) (fr:=fr) (cs:=cs) (w:=w) hm.notRun hf rfl (show (invoke (.fn (.func f) capv) (first++av)).run E.P w = .ok (.enter f ((first++av)++capv)) w by
      simp only [invoke]; exact run_callFunc hcal _ _)
     obtain ⟨w1,μ1,u1,hst,hS,hfr,hmr⟩:=hrun { fr with defers:=r' } cs hm
     rw [Array.toArray_toList] at hst
     have hx:=SRel.ext h hS hfr
     have rest:∀ m2,MRel (Mm M0 μ1) w1 μ1 m2 u1→zDs df r m2 s1 c1 = .ok m' s' c'→∃ w' μ' u',Steps E.P (lone fr cs w) (lone { fr with defers:=[],mode:=u' } cs w')∧SRel E M0 w0 μ' w' s' c'∧Fr c s μ w c' s' μ' w'∧MRel (Mm M0 μ') w' μ' m' u':=by
      intro m2 hm2 hz2
      obtain ⟨w2,μ2,u2,k1,k2,k3,k4⟩:=ih (fr:={ fr with defers:=r',mode:=u1 }) hz2 hS (h3.mono hx hfr.mu) hm2 rfl
      exact ⟨w2,μ2,u2,.head hstep (Steps.trans hst k1),k2,hfr.trans k3,k4⟩
     cases o with
     | ret v=>exact rest _ hmr hs
     | pan ch=>exact rest _ hmr hs
   | _=>simp only [zDs] at hs; cases hs
  case it nm=>
   cases args with
   | cons _ _=>simp only [zDs] at hs; cases hs
   | nil=>
    simp only [zDs] at hs
    split at hs
    ·rename_i hg
     simp only [DfRel] at hd
     obtain ⟨l,b,r',h1,h2,rfl,h3⟩:=hd
     obtain ⟨l',b',k1,k2,k3,k4⟩:=h.st nm _ l h1 hg
     rw [h1] at k1; cases k1; rw [h2] at k2; cases k2
     let w1:World:={ w with heap:=w.heap.setIfInBounds b (.deferred none) }
     have hrun:(Instr.takeDeferred b).run E.P w = .ok [] w1:=by
      simp [Instr.takeDeferred,getObj,setObj,Sem.run,k4,w1]
     obtain ⟨hx,hR,hfr⟩:=Rel.kill h nm l b (w':=w1) h1 h2 (by show (sget s nm).isSome=true; rw [hg]; rfl) (by simp [w1]) (fun q hq=>by simp only [w1]; rw [Array.getElem?_setIfInBounds_ne (fun e=>hq e.symm)])
     have hstep:=step_mark (P:=E.P) (fr:=fr) (cs:=cs) hm.notRun hf hrun
     obtain ⟨w2,μ2,u2,g1,g2,g3,g4⟩:=ih (fr:={ fr with defers:=[]++r' }) hs hR (h3.mono hx (muLe.refl _)) (hm.mono hx (muLe.refl _)) rfl
     exact ⟨w2,μ2,u2,.head hstep g1,g2,hfr.trans g3,g4⟩
    ·cases hs
  all_goals (simp only [zDs] at hs; cases hs)
theorem enter_fat {P:Program} {f:Nat} {fn:Func} {c:Code} (hf:P.funcs[f]?=some fn) (hb:fn.body=some c) (args:Array Value) (kd:CallKind) :
  Frame.enter P f args kd=fat { (default:Frame) with fn:=f,kind:=kd } { tmps:=args++Array.replicate (fn.ntmps-args.size) undef,defers:=[] } [.code c]:=by
 simp [Frame.enter,fat,hf,hb]
 rfl
theorem zdef_ok (hT:TOK E cx) {p:FD} (H:Ctx E cx p.fn) (k:Nat):DefOK E (zdef cx k p):=by
 intro M0 w0 μ w s c f args vals m o m' s' c' h hv hs
 unfold zdef at hs
 split at hs
 ·rename_i A hA
  obtain ⟨hcal,fn,hfn,hcomp⟩:=hT.body f A hA
  obtain ⟨cd,hbody,hc,hres⟩:=compF_spec hcomp
  cases hlen:Nat.beq args.length A.np <;> rw [hlen] at hs
  ·cases hs
  simp only [cond_true] at hs
  refine ⟨hcal,fun c0 cs hm => ?_⟩
  let b:Frame:={ (default:Frame) with fn:=f,kind := .deferred }
  have hst:=start_rel (N:=fn.ntmps) h hv
  rw [enter_fat hfn hbody]
  cases hz:zS cx p.fn k A.body (start args s c) m with
  | no=>rw [hz] at hs; cases hs
  | ok out x md=>
   rw [hz] at hs
   obtain ⟨a',w',μ',ou,u',r1,r2,r3,r4,r5,r6⟩:=codeS_did (b:=b) (cs:=cs) (k:=[]) H rfl rfl cd hc hst rfl hm hz
   have fin:∀ d v todo,x.d=[]→results A x=some d→Steps E.P (lone (fat b { tmps:=vals.toArray++Array.replicate (fn.ntmps-vals.toArray.size) undef,defers:=[] } [.code cd]) (c0::cs) w) (lone { fat b a' todo with mode := .returning } ({ c0 with mode:=u' }::cs) w') →
     (Go.results fn a'.tmps).run E.P w' = .ok v w' →
     ∃ w'' μ'' u'',Steps E.P (lone (fat b { tmps:=vals.toArray++Array.replicate (fn.ntmps-vals.toArray.size) undef,defers:=[] } [.code cd]) (c0::cs) w) (lone { c0 with mode:=u'' } cs w'')∧SRel E M0 w0 μ'' w'' x.s x.c∧Fr c s μ w x.c x.s μ'' w''∧MRel (Mm M0 μ'') w'' μ'' (settle md) u'':=by
    intro d v todo hd hr hsteps hrun
    have hdf:a'.defers=[]:=by have:=r1.defers; rw [hd] at this; simpa only [DfRel] using this
    refine ⟨w',μ',Go.settle u',Steps.trans hsteps (.one ?_),r1.toS,r2,r5.settle⟩
    exact step_going_returned (P:=E.P) (fr:={ fat b a' todo with mode := .returning }) (c:={ c0 with mode:=u' }) (cs:=cs) (v:=v) rfl ⟨rfl,hdf,fn,hfn,hrun⟩
   have norm:(out = .normal∨out = .ret)→zdone A (.ret .un) x md = .ok o m' s' c'→∃ w'' μ'' u'',Steps E.P (lone (fat b { tmps:=vals.toArray++Array.replicate (fn.ntmps-vals.toArray.size) undef,defers:=[] } [.code cd]) (c0::cs) w) (lone { c0 with mode:=u'' } cs w'')∧SRel E M0 w0 μ'' w'' s' c'∧Fr c s μ w c' s' μ'' w'' ∧
     MRel (Mm M0 μ'') w'' μ'' (afterD o m') u'':=by
    intro ho hz2
    unfold zdone at hz2
    split at hz2
    ·rename_i ch hd heq; cases heq
    ·rename_i hd _
     cases hr:results A x with
     | none=>rw [hr] at hz2; cases hz2
     | some d=>
      rw [hr] at hz2
      cases hz2
      obtain ⟨v,hrun,_⟩:=results_ok r1 hres hr
      rcases ho with rfl|rfl
      ·cases r4
       exact fin d v [] hd hr (Steps.trans r6 (.one (fstep_end rfl))) hrun
      ·cases r4
       obtain ⟨todo,t1⟩:=r6
       exact fin d v _ hd hr (Steps.trans t1 (.one (fstep_ret rfl))) hrun
    ·cases hz2
   cases out with
   | normal=>exact norm (.inl rfl) hs
   | ret=>exact norm (.inr rfl) hs
   | exit i=>cases hs
   | pan ch=>
    have hs':zdone A (.pan ch) x md = .ok o m' s' c':=hs
    unfold zdone at hs'
    split at hs'
    ·rename_i ch' hd heq
     cases heq
     cases hs'
     obtain ⟨chain,rfl,hch⟩:=r4
     obtain ⟨todo,_,t1⟩:=r6
     have hdf:a'.defers=[]:=by have:=r1.defers; rw [hd] at this; simpa only [DfRel] using this
     refine ⟨w',μ',Go.raised u' chain,Steps.trans t1 (.one ?_),r1.toS,r2,r5.raised hch⟩
     exact step_going_panicked (P:=E.P) (fr:={ fat b a' todo with mode := .panicking chain }) (c:={ c0 with mode:=u' }) (cs:=cs) ⟨rfl,hdf,fn,hfn⟩
    ·rename_i heq; cases heq
    ·cases hs'
 ·cases hs
theorem body_one {p:FD} (hdf:DefOK E p.df) {s:St} {c f:Nat} {args:List D} {vals:List Value} {o:FO} {s':St} {c':Nat} {A:AF} {fn:Func} {cd:Code} (hfn:E.P.funcs[f]?=some fn)
  (hres:fn.results.toList.mapM (compRes E.P)=some A.res) {b:Frame} (hb:b={ (default:Frame) with fn:=f,kind := .normal }) {out:Out} {x:AS}
  (hD:Did E M0 w0 fn.ntmps μ w (start args s c) (lone (fat b { tmps:=vals.toArray++Array.replicate (fn.ntmps-vals.toArray.size) undef,defers:=[] } [.code cd]) cs w) b [] cs out x)
  (hs:zbody p.df A (.ok out x) = .ok o s' c') :
  ∃ e w'' fr,Back E M0 w0 μ w c s o s' c' e w''∧Comes E.P (lone (fat b { tmps:=vals.toArray++Array.replicate (fn.ntmps-vals.toArray.size) undef,defers:=[] } [.code cd]) cs w) (lone fr cs w'') e∧fr.fn=f∧fr.leaving E.P w'' e:=by
 subst hb
 let b:Frame:={ (default:Frame) with fn:=f,kind := .normal }
 obtain ⟨a',w',μ',ou,r1,r2,r3,r4,r5⟩:=hD
 have fin:∀ (m:ZMode) (u:FrameMode) (todo:List Item),MRel (Mm M0 μ') w' μ' m u→Steps E.P (lone (fat b { tmps:=vals.toArray++Array.replicate (fn.ntmps-vals.toArray.size) undef,defers:=[] } [.code cd]) cs w) (lone { fat b a' todo with mode:=u } cs w') →
   zEnd p.df A m x = .ok o s' c'→∃ e w'' fr,Back E M0 w0 μ w c s o s' c' e w''∧Comes E.P (lone (fat b { tmps:=vals.toArray++Array.replicate (fn.ntmps-vals.toArray.size) undef,defers:=[] } [.code cd]) cs w) (lone fr cs w'') e∧fr.fn=f∧fr.leaving E.P w'' e:=by
  intro m u todo hm hsteps he
  unfold zEnd at he
  cases hd:zDs p.df x.d m x.s x.c with
  | no=>rw [hd] at he; cases he
  | ok m1 s1 c1=>
   rw [hd] at he
   obtain ⟨w2,μ2,u2,k1,k2,k3,k4⟩:=ds_did (cs:=cs) hdf x.d (fr:={ fat b a' todo with mode:=u }) hd r1.toS r1.defers hm rfl
   cases m1 with
   | none=>
    simp only at he
    have hu:u2 = .returning:=k4
    subst hu
    cases hr:results A ⟨x.t,s1,c1,x.d,x.r⟩ with
    | none=>rw [hr] at he; cases he
    | some d=>
     rw [hr] at he
     cases he
     have hR:=r1.carry k2 k3
     obtain ⟨v,hrun,hvr⟩:=results_ok hR hres hr
     exact ⟨.returned v,w2,_,⟨μ2,k2,r2.trans k3,v,rfl,hvr⟩,Steps.trans hsteps k1,rfl,rfl,rfl,rfl,fn,hfn,hrun⟩
   | some ch=>
    simp only at he
    cases he
    obtain ⟨chain,hu,hch⟩:=k4
    subst hu
    exact ⟨.panicked chain,w2,_,⟨μ2,k2,r2.trans k3,chain,rfl,hch⟩,Steps.trans hsteps k1,rfl,rfl,rfl,fn,hfn⟩
 cases out with
 | normal=>
  cases r4
  exact fin none .returning [] rfl (Steps.trans r5 (.one (fstep_end rfl))) hs
 | ret=>
  cases r4
  obtain ⟨todo,t1⟩:=r5
  exact fin none .returning _ rfl (Steps.trans t1 (.one (fstep_ret rfl))) hs
 | exit i=>cases hs
 | pan ch=>
  obtain ⟨chain,rfl,hch⟩:=r4
  obtain ⟨todo,_,t1⟩:=r5
  exact fin (some ch) (.panicking chain) todo ⟨chain,rfl,hch⟩ t1 hs
theorem zcall_ok (hT:TOK E cx) {p:FD} (H:Ctx E cx p.fn) (hdf:DefOK E p.df) (k:Nat) {s:St} {c f:Nat} {args:List D} {vals:List Value} {o:FO} {s':St} {c':Nat} (h:SRel E M0 w0 μ w s c) (hv:VRels (Mm M0 μ) w μ args vals)
  (hs:zcall cx k p f args s c = .ok o s' c'):callable E.P f=true∧Calls E.P f vals.toArray w (Back E M0 w0 μ w c s o s' c'):=by
 unfold zcall at hs
 split at hs
 ·rename_i A hA
  obtain ⟨hcal,fn,hfn,hcomp⟩:=hT.body f A hA
  obtain ⟨cd,hbody,hc,hres⟩:=compF_spec hcomp
  cases hlen:Nat.beq args.length A.np <;> rw [hlen] at hs
  ·cases hs
  simp only [cond_true] at hs
  refine ⟨hcal,fun cs => ?_⟩
  have hst:=start_rel (N:=fn.ntmps) h hv
  rw [enter_fat hfn hbody]
  cases hz:zC A.body cx p.fn k (start args s c) with
  | no=>rw [hz] at hs; cases hs
  | ok out x=>
   rw [hz] at hs
   exact body_one hdf hfn hres rfl (code_did (b:={ (default:Frame) with fn:=f,kind := .normal }) (cs:=cs) (k:=[]) H cd hc hst rfl hz) hs
 ·cases hs
end
end Zv
namespace Zv
open Go
theorem putAll_rel {M:Nat→Prop} {w:World} {μ:Mu} {N:Nat}:∀ {ps:List Nat} {args:List D} {vals:List Value} {T:Array Value} {t:Tm},(ps.all fun p=>Nat.blt p N)=true→N≤T.size→VRels M w μ args vals→args.length=ps.length →
  (∀ n,VRel M w μ (tget t n) (T.getD n undef))→N≤((ps.zip vals).foldl (fun (T:Array Value) p=>T.setIfInBounds p.1 p.2) T).size∧∀ n,VRel M w μ (tget (putAll ps args t) n) (((ps.zip vals).foldl (fun (T:Array Value) p=>T.setIfInBounds p.1 p.2) T).getD n undef)
 | [],args,vals,T,t,_,hN,_,_,ht=>by
  simp only [putAll,List.zip_nil_left,List.foldl_nil]
  exact ⟨hN,ht⟩
 | p::ps,[],vals,T,t,_,_,_,hl,_=>by simp at hl
 | p::ps,d::ds,vals,T,t,hp,hN,hv,hl,ht=>by
  simp only [VRels] at hv
  obtain ⟨v,vs,rfl,h1,h2⟩:=hv
  simp only [List.all_cons,Bool.and_eq_true] at hp
  have hlt:p<T.size:=Nat.lt_of_lt_of_le (by simpa [Nat.blt_eq] using hp.1) hN
  simp only [putAll,List.zip_cons_cons,List.foldl_cons]
  refine putAll_rel (T:=T.setIfInBounds p v) (t:=tput t p d) hp.2 (by simpa using hN) h2 (by simpa using hl) fun n => ?_
  rw [tget_tput,Array.getD_eq_getD_getElem?]
  by_cases hn:n=p
  ·subst hn
   rw [if_pos rfl,Array.getElem?_setIfInBounds_self_of_lt hlt]
   exact h1
  ·rw [if_neg hn,Array.getElem?_setIfInBounds_ne (fun e=>hn e.symm),←Array.getD_eq_getD_getElem?]
   exact ht n
section
variable {P:Program} {b:Frame} {a:Act} {k:List Item} {cs:List Frame} {w w':World}
theorem step_begin {l:Nat} (hr:b.roundOf=some l) (h:(Instr.beginRound l).run P w = .ok () w'):Go.step P (lone (fat b a (.beginRound::k)) cs w) = .next (lone (fat b a k) cs w'):=by
 refine step_lone_go ?_
 have hs:(do (fat b a (.beginRound::k)).roundOf.elim (stuck "beginRound: no round") Instr.beginRound; pure .skip:Sem Next).run P w = .ok .skip w':=by
  have:(fat b a (.beginRound::k)).roundOf=some l:=hr
  rw [this]
  simp [h]
 have:=apply_skip (fr:=fat b a (.beginRound::k)) (cs:=cs) hs
 have hf:(fat b a (.beginRound::k)).finish undef=fat b a k:=rfl
 rw [hf] at this
 rw [←this]
 simp [stepG,stepG.exec,fat]
theorem run_beginRound {l:Nat} {lo:Loop} (h:w.heap[l]?=some (.loop lo)) (hs:lo.state = .ready) :
  (Instr.beginRound l).run P w = .ok () { w with heap:=w.heap.setIfInBounds l (.loop { lo with state := .busy }) }:=by
 simp [Instr.beginRound,Instr.getLoop,getObj,setObj,Sem.run,h,hs]
theorem run_endRound {l:Nat} {lo:Loop} (h:w.heap[l]?=some (.loop lo)) (j:Option Code) :
  (Instr.endRound l j).run P w = .ok (.bool j.isNone) { w with heap:=w.heap.setIfInBounds l (.loop { lo with state:=if j.isNone then .ready else .done,pending:=j }) }:=by
 simp [Instr.endRound,Instr.getLoop,getObj,setObj,Sem.run,h]
theorem leave_end {l:Nat} {c0:Frame} {v:Value} (hr:b.roundOf=some l) (hk:b.kind = .normal) (h:(Instr.endRound l none).run P w = .ok v w') :
  Go.step P (lone (fat b a []) (c0::cs) w) = .next (lone (c0.finish v) cs w'):=
 step_lone_go (by simp [stepG,stepG.exec,fat,hr,h,doReturn,hk])
theorem leave_ret {l:Nat} {c0:Frame} {v:Value} {todo:List Item} (hr:b.roundOf=some l) (hk:b.kind = .normal) (h:(Instr.endRound l (some .ret)).run P w = .ok v w') :
  Go.step P (lone (fat b a (.code .ret::todo)) (c0::cs) w) = .next (lone (c0.finish v) cs w'):=
 step_lone_go (by simp [stepG,stepG.exec,fat,hr,h,doReturn,hk])
theorem leave_exit {l i:Nat} {c0:Frame} {v:Value} {todo:List Item} (hr:b.roundOf=some l) (hk:b.kind = .normal) (he:jumpTo i todo=none) (h:(Instr.endRound l (some (jumpC i))).run P w = .ok v w') :
  Go.step P (lone (fat b a (.code (jumpC i)::todo)) (c0::cs) w) = .next (lone (c0.finish v) cs w'):=by
 unfold jumpTo at he
 unfold jumpC at h ⊢
 cases hp:Nat.beq (i % 2) 0 <;> rw [hp] at he h
 ·simp only [cond_false] at he h ⊢
  exact step_lone_go (by simp [stepG,stepG.exec,fat,hr,h,doReturn,hk,he])
 ·simp only [cond_true] at he h ⊢
  exact step_lone_go (by simp [stepG,stepG.exec,fat,hr,h,doReturn,hk,he])
theorem step_round_panicked {c0:Frame} {todo:List Item} {chain:List PanicEntry} (hd:a.defers=[]) (ho:Item.own todo=true) :
  Go.step P (lone { fat b a todo with mode := .panicking chain } (c0::cs) w) = .next (lone (c0.raise chain) cs w):=by
 refine step_lone_go ?_
 have hc:Frame.catches P { fat b a todo with mode := .panicking chain }=false:=by
  unfold Frame.catches
  simp only [fat]
  split
  ·cases ho
  ·rfl
 simp only [fat,hd] at hc
 simp [stepG,unwind,fat,hd,hc]
end
section
variable {E:Env} {cx:Cx} {M0:Nat→Prop} {w0:World} {μ:Mu} {M:Nat→Prop} {w:World}
theorem zround_ok {cl:CL} (H:Ctx E cx cl) (k:Nat) {s:St} {c nm:Nat} {args:List D} {vals:List Value} {o:FO} {s':St} {c':Nat} (h:SRel E M0 w0 μ w s c) (hv:VRels (Mm M0 μ) w μ args vals)
  (hs:zRound cx cl k nm args s c = .ok o s' c') {loc:Loc} {l:Nat} (hμ:μ nm=some loc) (hl:loc.blk=some l):CallRes E.P (Instr.yield l vals.toArray) w (Back E M0 w0 μ w c s o s' c'):=by
 unfold zRound at hs
 split at hs
 ·rename_i st0 pd0 t ps a' b' hg
  cases hlen:Nat.beq args.length ps.length <;> rw [hlen] at hs
  ·cases hs
  have hlen':=Nat.eq_of_beq_eq_true hlen
  simp only [cond_true] at hs
  obtain ⟨loc',bk,lo,N,g1,g2,g3,g4,g5,g6,g7,g8,g9,g10,g11,g12⟩:=h.st nm _ loc hμ hg
  rw [hμ] at g1; cases g1; rw [hl] at g2; cases g2
  let T:Array Value:=(ps.zip vals).foldl (fun (T:Array Value) p=>T.setIfInBounds p.1 p.2) lo.tmps
  have hvl:vals.length=args.length:=hv.length
  have hyield:(Instr.yield l vals.toArray).run E.P w = .ok (.round l lo.fn T lo.assign lo.body) w:=by
   have hps:lo.params.size=ps.length:=by rw [←g7]; simp
   have hsz:vals.toArray.size=lo.params.size:=by rw [hps,←hlen',←hvl]; simp
   have hT:(lo.params.zip vals.toArray).foldl (fun tmps (t,a)=>tmps.setIfInBounds t a) lo.tmps=T:=by
    rw [←Array.foldl_toList,Array.toList_zip,g7]
   have hne:¬ (vals.toArray.size≠lo.params.size):=fun e=>e hsz
   have hz:(lo.params.zip vals.toArray).size=lo.params.size:=by rw [Array.size_zip,hsz]; simp
   simp [Instr.yield,Instr.getLoop,getObj,Sem.run,g4,hsz]
   rw [←hz]; exact hT
  obtain ⟨hTs,hTr⟩:=putAll_rel (T:=lo.tmps) (t:=t) g8 g11 hv hlen' g12
  let b:Frame:={ (default:Frame) with fn:=lo.fn,kind := .normal,roundOf:=some l }
  let a0:Act:=⟨T,[]⟩
  have hR0:Rel E M0 w0 N μ a0 w ⟨putAll ps args t,s,c,[],some nm⟩:=h.frame hTs hTr (by simp only [DfRel]; rfl)
  have hro0:RoundOK b (some nm) μ:=⟨loc,l,hμ,hl,rfl⟩
  refine ⟨_,w,_,hyield,.round _ _ _ _ _,fun c0 cs => ?_⟩
  have hfr:Frame.round l lo.fn T lo.assign lo.body .normal=fat b a0 [.code lo.assign,.beginRound,.code lo.body]:=rfl
  rw [hfr]
  have pan:∀ (m:Machine) (kk:List Item) (ch:Ch) (z:AS) (μ1:Mu) (w1:World) (x1:AS),Did E M0 w0 N μ1 w1 x1 m b kk (c0::cs) (.pan ch) z→Fr c s μ w x1.c x1.s μ1 w1→z.d=[]→FR.ok (.pan ch) z.s z.c = .ok o s' c' →
    Steps E.P (lone (fat b a0 [.code lo.assign,.beginRound,.code lo.body]) (c0::cs) w) m→Delivers E.P (lone (fat b a0 [.code lo.assign,.beginRound,.code lo.body]) (c0::cs) w) c0 cs (Back E M0 w0 μ w c s o s' c'):=by
   intro m kk ch z μ1 w1 x1 hD hf hd he hst
   cases he
   obtain ⟨a2,w2,μ2,ou,r1,r2,r3,r4,r5⟩:=hD
   obtain ⟨chain,rfl,hch⟩:=r4
   obtain ⟨todo,t0,t1⟩:=r5
   have hdf:a2.defers=[]:=by have:=r1.defers; rw [hd] at this; simpa only [DfRel] using this
   exact ⟨.panicked chain,w2,⟨μ2,r1.toS,hf.trans r2,chain,rfl,hch⟩,Steps.trans hst (Steps.trans t1 (.one (step_round_panicked hdf t0)))⟩
  cases hz:zC a' cx cl k ⟨putAll ps args t,s,c,[],some nm⟩ with
  | no=>rw [hz] at hs; cases hs
  | ok o1 y=>
   rw [hz] at hs
   have hD:=code_did (b:=b) (cs:=c0::cs) (k:=[.beginRound,.code lo.body]) H lo.assign g9 hR0 hro0 hz
   cases o1 with
   | exit i=>cases hs
   | ret=>cases hs
   | pan ch=>
    simp only at hs
    split at hs
    ·rename_i hd
     exact pan _ _ ch y μ w _ hD (Fr.refl _ _ _ _) hd hs (.refl _ _)
    ·cases hs
   | normal=>
    simp only at hs
    obtain ⟨a1,w1,μ1,ou,r1,r2,r3,r4,r5⟩:=hD
    cases r4
    split at hs
    ·rename_i pend t' ps' a2 b2 hg1
     have hμ1:μ1 nm=some loc:=r2.mu _ _ hμ
     obtain ⟨loc',bk,lo1,N1,q1,q2,q3,q4,q5,q6,q7,q8,q9,q10,q11,q12⟩:=r1.st nm _ loc hμ1 hg1
     rw [hμ1] at q1; cases q1; rw [hl] at q2; cases q2
     let w2:World:={ w1 with heap:=w1.heap.setIfInBounds l (.loop { lo1 with state := .busy }) }
     have hlt1:l<w1.heap.size:=(r1.own nm loc l hμ1 hl).2
     obtain ⟨hx2,hR2,hf2⟩:=r1.write nm (.lp .busy pend t' ps' a2 b2) loc l (w':=w2) (x':=⟨y.t,sset y.s nm (.lp .busy pend t' ps' a2 b2),y.c,y.d,y.r⟩) hμ1 hl (by rw [hg1]; rfl) (by simp [w2])
      (fun q hq=>by simp only [w2]; rw [Array.getElem?_setIfInBounds_ne (fun e=>hq e.symm)]) (fun n=>rfl) (fun n=>by rw [sget_sset]) rfl rfl
      (fun hx=>⟨loc,l,{ lo1 with state := .busy },N1,hμ1,hl,q3,by simp [w2,hlt1],rfl,q6,q7,q8,q9,q10,q11,fun n=>VRel.mono hx _ _ (muLe.refl _) (q12 n)⟩)
     have hbeg:=step_begin (P:=E.P) (b:=b) (a:=a1) (k:=[.code lo.body]) (cs:=c0::cs) (w:=w1) (w':=w2) rfl (run_beginRound q4 q5)
     have hto:Steps E.P (lone (fat b a0 [.code lo.assign,.beginRound,.code lo.body]) (c0::cs) w) (lone (fat b a1 [.code lo.body]) (c0::cs) w2):=Steps.trans r5 (.one hbeg)
     have hro2:RoundOK b y.r μ1:=by rw [r3]; exact hro0.mono r2.mu
     cases hz2:zC b' cx cl k ⟨y.t,sset y.s nm (.lp .busy pend t' ps' a2 b2),y.c,y.d,y.r⟩ with
     | no=>rw [hz2] at hs; cases hs
     | ok o2 z=>
      rw [hz2] at hs
      have hD2:=code_did (b:=b) (cs:=c0::cs) (k:=[]) H lo.body g10 hR2 hro2 hz2
      have done:∀ (j:Option (Option Nat)),(∃ ou:Ou,OuRel (Mm M0 μ) w μ o2 ou)→(match o2 with | .normal=>j=none | .exit i=>j=some (some i) | .ret=>j=some none | .pan _=>False) →
        (match sget z.s nm with
         | some (.lp _ _ t' ps' a' b')=>FR.ok (.ret (.bool j.isNone)) (sset z.s nm (.lp (bif j.isNone then .ready else .done) j t' ps' a' b')) z.c
         | _ => .no) = .ok o s' c'→Delivers E.P (lone (fat b a0 [.code lo.assign,.beginRound,.code lo.body]) (c0::cs) w) c0 cs (Back E M0 w0 μ w c s o s' c'):=by
       intro j _ hj hs2
       obtain ⟨a3,w3,μ3,ou,p1,p2,p3,p4,p5⟩:=hD2
       split at hs2
       ·rename_i st3 pd3 t3 ps3 a3' b3' hg3
        cases hs2
        have hμ3:μ3 nm=some loc:=p2.mu _ _ hμ1
        obtain ⟨loc',bk,lo3,N3,v1,v2,v3,v4,v5,v6,v7,v8,v9,v10,v11,v12⟩:=p1.st nm _ loc hμ3 hg3
        rw [hμ3] at v1; cases v1; rw [hl] at v2; cases v2
        let w4:World:={ w3 with heap:=w3.heap.setIfInBounds l (.loop { lo3 with state:=if (j.map jumpOf).isNone then .ready else .done,pending:=j.map jumpOf }) }
        have hlt3:l<w3.heap.size:=(p1.own nm loc l hμ3 hl).2
        have hst:(if (j.map jumpOf).isNone=true then LoopState.ready else .done)=(bif j.isNone then .ready else .done):=by cases j <;> rfl
        obtain ⟨hx4,hR4,hf4⟩:=p1.write nm (.lp (bif j.isNone then .ready else .done) j t3 ps3 a3' b3') loc l (w':=w4) (x':=⟨z.t,sset z.s nm (.lp (bif j.isNone then .ready else .done) j t3 ps3 a3' b3'),z.c,z.d,z.r⟩) hμ3 hl (by rw [hg3]; rfl) (by simp [w4])
         (fun q hq=>by simp only [w4]; rw [Array.getElem?_setIfInBounds_ne (fun e=>hq e.symm)]) (fun n=>rfl) (fun n=>by rw [sget_sset]) rfl rfl
         (fun hx=>⟨loc,l,{ lo3 with state:=if (j.map jumpOf).isNone then .ready else .done,pending:=j.map jumpOf },N3,hμ3,hl,v3,by simp [w4,hlt3],hst,rfl,v7,v8,v9,v10,v11,fun n=>VRel.mono hx _ _ (muLe.refl _) (v12 n)⟩)
        have hrun:=run_endRound (P:=E.P) v4 (j.map jumpOf)
        have hbool:(j.map jumpOf).isNone=j.isNone:=by cases j <;> rfl
        refine ⟨.returned (.bool j.isNone),w4,⟨μ3,hR4.toS,(r2.trans hf2).trans (p2.trans hf4),_,rfl,by simp only [VRel]⟩,?_⟩
        rw [hbool] at hrun
        cases o2 with
        | normal=>
         have hj':j=none:=hj
         subst hj'
         cases p4
         exact Steps.trans hto (Steps.trans p5 (.one (leave_end rfl rfl hrun)))
        | exit i=>
         have hj':j=some (some i):=hj
         subst hj'
         cases p4
         obtain ⟨todo,e1,e2⟩:=p5
         exact Steps.trans hto (Steps.trans e2 (.one (leave_exit rfl rfl (e1.trans (jumpTo_nil i)) hrun)))
        | ret=>
         have hj':j=some none:=hj
         subst hj'
         cases p4
         obtain ⟨todo,e2⟩:=p5
         exact Steps.trans hto (Steps.trans e2 (.one (leave_ret rfl rfl hrun)))
        | pan c=>exact hj.elim
       ·cases hs2
      cases o2 with
      | pan ch=>
       simp only at hs
       split at hs
       ·rename_i hd
        exact pan _ _ ch z μ1 w2 _ hD2 (r2.trans hf2) hd hs hto
       ·cases hs
      | normal=>exact done none ⟨.normal,rfl⟩ rfl hs
      | exit i=>exact done (some (some i)) ⟨.exit i,rfl⟩ rfl hs
      | ret=>exact done (some none) ⟨.ret,rfl⟩ rfl hs
    ·cases hs
 ·cases hs
end
def KOK (E:Env) (cx:Cx):Prop:=∀ f,∀ p∈cx.K f,callable E.P f=true∧PureC E f p.1 p.2∧p.2.flat=true
theorem zlook_mem {fa:List D}:∀ {l:List (List D × D)} {d:D},zlook fa l=some d→(fa,d)∈l
 | [],d,h=>by simp [zlook] at h
 | p::r,d,h=>by
  simp only [zlook] at h
  cases hs:sameDs 1000 p.1 fa <;> rw [hs] at h
  ·exact List.mem_cons_of_mem _ (zlook_mem h)
  ·cases h
   have:=(sameD_eq 1000).2 _ _ hs
   rw [←this]
   exact List.mem_cons_self
def SpOK (E:Env) (f:Nat) (g:List D→St→Nat→FR):Prop:=
 ∀ {M0:Nat→Prop} {w0:World} {μ:Mu} {w:World} {s:St} {c:Nat} {args:List D} {vals:List Value} {o:FO} {s':St} {c':Nat},
  SRel E M0 w0 μ w s c→VRels (Mm M0 μ) w μ args vals→g args s c = .ok o s' c'→callable E.P f=true∧Calls E.P f vals.toArray w (Back E M0 w0 μ w c s o s' c')
structure POK (E:Env) (cx:Cx):Prop where
 body:TOK E cx
 known:KOK E cx
 meth:∀ t n f,cx.M t n=some f→methF E.P t n=some f
 glob:cx.G=E.G
 mixed:E.P.follows .mixedOrders=true
 spec:∀ f g,cx.X f=some g→SpOK E f g
theorem zn_ok {E:Env} {cx:Cx} (H:POK E cx) (k:Nat):∀ n,CallOK E (zN cx k n).fn∧DefOK E (zN cx k n).df:=by
 intro n
 induction n with
 | zero=>
  refine ⟨⟨fun _ _ hs => ?_,fun _ _ hs => ?_⟩,fun _ _ hs => ?_⟩
  ·have hs':FR.no=_:=hs; cases hs'
  ·have hs':FR.no=_:=hs; cases hs'
  ·have hs':DR.no=_:=hs; cases hs'
 | succ n ih=>
  have C:Ctx E cx (zN cx k n).fn:=⟨ih.1,H.meth,H.glob,H.mixed⟩
  refine ⟨⟨fun {M0 w0 μ w s c f args vals o s' c'} h hv hs => ?_,fun h hv hs loc l hμ hl=>zround_ok C k h hv hs hμ hl⟩,fun h hv hs=>zdef_ok H.body C k h hv hs⟩
  have hs0:zspec cx f (zmemo cx f (zcall cx k (zN cx k n) f)) args s c = .ok o s' c':=hs
  have hs1:(∃ g,cx.X f=some g∧g args s c = .ok o s' c')∨zmemo cx f (zcall cx k (zN cx k n) f) args s c = .ok o s' c':=by
   unfold zspec at hs0
   cases hX:cx.X f with
   | none=>rw [hX] at hs0; exact .inr hs0
   | some g=>rw [hX] at hs0; exact .inl ⟨g,rfl,hs0⟩
  rcases hs1 with ⟨g,hX,hs1⟩|hs'
  ·exact H.spec f g hX h hv hs1
  unfold zmemo at hs'
  split at hs'
  ·exact zcall_ok H.body C ih.2 k h hv hs'
  ·rename_i p l hK
   split at hs'
   ·exact zcall_ok H.body C ih.2 k h hv hs'
   ·rename_i fa hfa
    split at hs'
    ·rename_i d hd
     cases hs'
     obtain ⟨hcb,hP,hfl⟩:=H.known f (fa,d) (by rw [hK]; exact zlook_mem hd)
     have hfr:=frs_rel h (n:=20) hfa hv
     have hcall:=hP M0 w vals (fun b hb=>Nat.lt_of_lt_of_le (h.m0lt b hb) h.size) h.globals0 hfr
     refine ⟨?_,hcall.mono ?_⟩
     ·exact hcb
     ·rintro e w' ⟨v,rfl,hvr,hsz,henv,hsame⟩
      obtain ⟨hR,hF⟩:=Rel.more h hsz henv hsame
      exact ⟨μ,hR,hF,v,rfl,VRel.flat d v hfl hvr⟩
    ·exact zcall_ok H.body C ih.2 k h hv hs'
end Zv
namespace Zv
open Go
def st0:St := .nd (.nd (.nd (.nd (.ls []) (.ls [])) (.nd (.ls []) (.ls []))) (.nd (.nd (.ls []) (.ls [])) (.nd (.ls []) (.ls [])))) (.nd (.nd (.nd (.ls []) (.ls [])) (.nd (.ls []) (.ls []))) (.nd (.nd (.ls []) (.ls [])) (.nd (.ls []) (.ls []))))
theorem sget_st0 (n:Nat):sget st0 n=none:=by
 have hl:∀ n,(Tr.ls []:St).get n=none:=fun n=>rfl
 have hn:∀ (a b:St),(∀ n,a.get n=none)→(∀ n,b.get n=none)→∀ n,(Tr.nd a b).get n=none:=fun a b ha hb n=>by
  rw [trget_nd']; split
  ·exact ha _
  ·exact hb _
 have h1:=hn _ _ hl hl
 have h2:=hn _ _ h1 h1
 have h3:=hn _ _ h2 h2
 exact hn _ _ h3 h3 n
noncomputable def runs (cx:Cx) (k n f:Nat) (args:List D) (d:D):Bool:=
 match (zN cx k n).fn (.fn f) args st0 0 with
 | .ok (.ret r) _ _=>sameD 1000 r d
 | _=>false
theorem pure_of_runs {E:Env} {cx:Cx} (H:POK E cx) {f:Nat} (hcal:callable E.P f=true) {k n:Nat} {args:List D} {d:D} (hs:runs cx k n f args d=true) (hfl:d.flat=true) :
  callable E.P f=true∧PureC E f args d∧d.flat=true:=by
 unfold runs at hs
 split at hs
 ·rename_i r s' c' hr
  have hd:=(sameD_eq 1000).1 _ _ hs
  subst hd
  have hfn:=(zn_ok H k n).1
  have start:∀ (M:Nat→Prop) (w:World),(∀ b,M b→b<w.heap.size)→GRel E M w→SRel E M w mu0 w st0 0:=fun M w hM hG=>
   {size:=Nat.le_refl _,old:=fun _ _=>rfl,m0lt:=hM,defers:=by simp only [DfRel],n:=Nat.zero_le _,tm:=fun n=>by rw [tget_nil]; simp only [VRel]
    st:=fun nm blk l hl=>by simp [mu0] at hl
    lt:=fun nm l hl=>by simp [mu0] at hl
    own:=fun nm l b hl=>by simp [mu0] at hl
    inj:=fun n m l l' b _ _ hl=>by simp [mu0] at hl
    glob:=hG,env:=⟨rfl,rfl⟩ }
  refine ⟨hcal,fun M w vals hM hG hv => ?_,hfl⟩
  ·have hx:Ext M w (Mm M mu0) w:=⟨Nat.le_refl _,fun _ _ _=>rfl,fun b hb hm=>by
    rcases hm with hm|⟨nm,l,e,_⟩
    ·exact hm
    ·simp [mu0] at e⟩
   obtain ⟨_,hc⟩:=hfn.fn (start M w hM hG) (VRels.mono hx _ _ (muLe.refl _) hv) hr
   refine hc.mono ?_
   rintro e w' ⟨μ',hS,hF,v,rfl,hvr⟩
   exact ⟨v,rfl,VRel.flat r v hfl hvr,hF.size,hS.env,fun b hb=>hS.old b hb⟩
 ·cases hs
def lAll {α:Type} (Q:Nat→α→Prop) (g:Nat→Nat):List (Nat × α)→Prop
 | []=>True
 | p::r=>Q (g p.1) p.2∧lAll Q g r
def tAll {α:Type} (Q:Nat→α→Prop):Tr α→(Nat→Nat)→Prop
 | .ls l,g=>lAll Q g l
 | .nd a b,g=>tAll Q a (fun m=>g (2*m))∧tAll Q b (fun m=>g (2*m+1))
theorem lAll_get {α:Type} {Q:Nat→α→Prop} {g:Nat→Nat}:∀ {l:List (Nat × α)} {n:Nat} {v:α},lAll Q g l→lget l n=some v→Q (g n) v
 | [],n,v,_,h=>by simp [lget,lget_nil] at h
 | (k,u)::r,n,v,ha,h=>by
  rw [lget_c] at h
  by_cases e:n=k
  ·rw [if_pos e] at h; cases h; rw [e]; exact ha.1
  ·rw [if_neg e] at h; exact lAll_get ha.2 h
theorem tAll_get {α:Type} {Q:Nat→α→Prop}:∀ {t:Tr α} {g:Nat→Nat} {n:Nat} {v:α},tAll Q t g→t.get n=some v→Q (g n) v
 | .ls l,g,n,v,ha,h=>lAll_get ha h
 | .nd a b,g,n,v,ha,h=>by
  rw [trget_nd'] at h
  split at h
  ·have:=tAll_get ha.1 h
   rwa [show 2*(n / 2)=n by omega] at this
  ·have:=tAll_get ha.2 h
   rwa [show 2*(n / 2)+1=n by omega] at this
def BodyQ (P:Program) (f:Nat) (A:AF):Prop:=callable P f=true∧∃ fn,P.funcs[f]?=some fn∧compF P fn=some A
theorem body_of {P:Program} {f:Nat} {fn:Func} {A:AF} (hf:P.funcs[f]?=some fn) (hc:compF P fn=some A) (hn:(fn.name == "runtime.NumGoroutine")=false):BodyQ P f A:=by
 refine ⟨?_,fn,hf,hc⟩
 obtain ⟨c,hb,_⟩:=compF_spec hc
 unfold callable
 rw [hf]
 simp [hn,hb]
def TP (P:Program) (f:Nat):Option AF:=match P.funcs[f]? with
 | some fn=>bif fn.name == "runtime.NumGoroutine" then none else compF P fn
 | none=>none
theorem tp_ok {P:Program} {f:Nat} {A:AF} (h:TP P f=some A):BodyQ P f A:=by
 unfold TP at h
 split at h
 ·rename_i fn hf
  cases hn:fn.name == "runtime.NumGoroutine" <;> rw [hn] at h
  ·exact body_of hf h hn
  ·cases h
 ·cases h
def lS (P:Program) (g:Nat→Nat):List (Nat × AF)→List (Option AF)
 | []=>[]
 | p::r=>TP P (g p.1)::lS P g r
def tS (P:Program):Tr AF→(Nat→Nat)→Tr (List (Option AF))
 | .ls l,g => .ls [(0,lS P g l)]
 | .nd a b,g => .nd (tS P a (fun m=>g (2*m))) (tS P b (fun m=>g (2*m+1)))
def tV:Tr AF→Tr (List (Option AF))
 | .ls l => .ls [(0,l.map fun p=>some p.2)]
 | .nd a b => .nd (tV a) (tV b)
theorem lS_ok {P:Program} {g:Nat→Nat}:∀ {l:List (Nat × AF)},lS P g l=l.map (fun p=>some p.2)→lAll (BodyQ P) g l
 | [],_=>trivial
 | p::r,h=>by
  simp only [lS,List.map_cons,List.cons.injEq] at h
  exact ⟨tp_ok h.1,lS_ok h.2⟩
theorem tS_ok {P:Program}:∀ {T:Tr AF} {g:Nat→Nat},tS P T g=tV T→tAll (BodyQ P) T g
 | .ls l,g,h=>by
  simp only [tS,tV,Tr.ls.injEq,List.cons.injEq,Prod.mk.injEq,and_true,true_and] at h
  exact lS_ok h
 | .nd a b,g,h=>by
  simp only [tS,tV,Tr.nd.injEq] at h
  exact ⟨tS_ok h.1,tS_ok h.2⟩
def KnowQ (E:Env) (f:Nat):List (List D × D)→Prop
 | []=>True
 | p::r=>(callable E.P f=true∧PureC E f p.1 p.2∧p.2.flat=true)∧KnowQ E f r
theorem KnowQ.mem {E:Env} {f:Nat}:∀ {l:List (List D × D)},KnowQ E f l→∀ p∈l,callable E.P f=true∧PureC E f p.1 p.2∧p.2.flat=true
 | [],_,p,hp=>by cases hp
 | q::r,h,p,hp=>by
  rcases List.mem_cons.1 hp with rfl|hp
  ·exact h.1
  ·exact KnowQ.mem h.2 p hp
noncomputable def kGet (t:List (Nat × List (List D × D))) (f:Nat):List (List D × D):=Option.rec [] (fun l=>l) (lget t f)
theorem kok_of {E:Env} {T:Nat→Option AF} {G:List (Nat × List D)} {Mt:Nat→String→Option Nat} {t:List (Nat × List (List D × D))} {X:Nat→Option (List D→St→Nat→FR)} (h:lAll (fun f l=>KnowQ E f l) id t):KOK E ⟨T,G,Mt,kGet t,X⟩:=by
 intro f p hp
 have hp':p∈kGet t f:=hp
 unfold kGet at hp'
 cases hl:lget t f with
 | none=>rw [hl] at hp'; cases hp'
 | some l=>rw [hl] at hp'; exact (lAll_get h hl).mem p hp'
def mGet (l:List (Nat × String × Nat)) (t:Nat) (name:String):Option Nat:=
 match l with
 | []=>none
 | p::r=>bif Nat.beq p.1 t&&p.2.1==name then some p.2.2 else mGet r t name
def mAll (P:Program):List (Nat × String × Nat)→Prop
 | []=>True
 | p::r=>methF P p.1 p.2.1=some p.2.2∧mAll P r
theorem mGet_ok {P:Program}:∀ {l:List (Nat × String × Nat)},mAll P l→∀ t n f,mGet l t n=some f→methF P t n=some f
 | [],_,t,n,f,h=>by simp [mGet] at h
 | p::r,ha,t,n,f,h=>by
  simp only [mGet] at h
  cases hc:(Nat.beq p.1 t&&p.2.1==n) <;> rw [hc] at h
  ·exact mGet_ok ha.2 t n f h
  ·cases h
   simp only [Bool.and_eq_true,Nat.beq_eq,beq_iff_eq] at hc
   rw [←hc.1,←hc.2]; exact ha.1
theorem pok0 {E:Env} {kt:List (Nat × List (List D × D))} (hmix:E.P.follows .mixedOrders=true) (hk:lAll (fun f l=>KnowQ E f l) id kt) {X:List (Nat × (List D→St→Nat→FR))} (hX:lAll (SpOK E) id X):POK E ⟨TP E.P,E.G,mGet [],kGet kt,lget X⟩:=
 ⟨⟨fun f A h=>tp_ok h⟩,kok_of hk,mGet_ok trivial,rfl,hmix,fun f g h=>lAll_get hX h⟩
theorem pok {E:Env} {TT:Tr AF} {ml:List (Nat × String × Nat)} {kt:List (Nat × List (List D × D))} (hT:tAll (BodyQ E.P) TT id) (hm:mAll E.P ml) (hmix:E.P.follows .mixedOrders=true) (hk:lAll (fun f l=>KnowQ E f l) id kt)
  {X:List (Nat × (List D→St→Nat→FR))} (hX:lAll (SpOK E) id X) :
  POK E ⟨TT.get,E.G,mGet ml,kGet kt,lget X⟩:=
 ⟨⟨fun f A h=>tAll_get hT h⟩,kok_of hk,mGet_ok hm,rfl,hmix,fun f g h=>lAll_get hX h⟩
end Zv
namespace Zv
open Go
noncomputable section
def frz (p:Bool):Nat→St→D→Option D
 | 0,_,_=>none
 | n+1,s,d=>
  match d with
  | .agg cs=>(cs.mapM (frz p n s)).map .agg
  | .tup cs=>(cs.mapM (frz p n s)).map .tup
  | .iface t d=>(frz p n s d).map (.iface t)
  | .fn f a b=>do let a ←a.mapM (frz p n s); let b ←b.mapM (frz p n s); some (.fn f a b)
  | .ms nm off sz len cap=>
   match sget s nm with
   | some (.fix _ cs)=>bif Nat.ble (off+len*sz) cs.length then (((cs.drop off).take (len*sz)).mapM (frz p n s)).map (.sl (Nat.beq cap len) len) else none
   | some (.grow _ cs)=>bif Nat.ble (off+len*sz) cs.length then (((cs.drop off).take (len*sz)).mapM (frz p n s)).map (.sl (Nat.beq cap len) len) else none
   | _=>none
  | .gs nm off sz len=>
   match sget s nm with
   | some (.grow _ cs)=>bif Nat.ble (off+len*sz) cs.length then (((cs.drop off).take (len*sz)).mapM (frz p n s)).map (.sl false len) else none
   | _=>none
  | .ptr nm off=>
   match sget s nm with
   | some (.fix _ cs)=>(cs.mapM (frz p n s)).map fun cs => .iptr cs off
   | _=>none
  | .sl ex len cs=>bif p then none else some (.sl ex len cs)
  | .iptr cs off=>bif p then none else some (.iptr cs off)
  | .it _=>none
  | .mp _=>none
  | .yl _=>none
  | .un=>some .un
  | .bool b=>some (.bool b)
  | .int k i=>some (.int k i)
  | .str b=>some (.str b)
  | .nils=>some .nils
  | .nilp=>some .nilp
  | .nilif=>some .nilif
  | .nilfn=>some .nilfn
  | .nilm=>some .nilm
  | .adr b o=>some (.adr b o)
section
variable {E:Env} {M0:Nat→Prop} {w0:World} {N:Nat} {μ:Mu} {a:Act} {w:World} {x:AS}
theorem frz_rel (h:Rel E M0 w0 N μ a w x) {p:Bool} {Q:Nat→Prop} (hq:∀ nm l b,μ nm=some l→l.blk=some b→¬ Q b) (hp:p=false→∀ b,b<w.heap.size→Q b→Mm M0 μ b) :
  ∀ (n:Nat) (d d':D) (v:Value),frz p n x.s d=some d'→VRel (Mm M0 μ) w μ d v→VRel Q w mu0 d' v:=by
 intro n
 induction n with
 | zero=>intro d d' v hf; simp [frz] at hf
 | succ n ih=>
  intro d d' v hf hv
  have lists:∀ (cs ds:List D) (vs:List Value),cs.mapM (frz p n x.s)=some ds→VRels (Mm M0 μ) w μ cs vs→VRels Q w mu0 ds vs:=fun cs ds vs hm hr=>by
   obtain ⟨h1,h2⟩:=mapM_rels (R:=VRel (Mm M0 μ) w μ) (R':=VRel Q w mu0) hm hr.length (fun i c v hc hv=>hr.at hc hv) (fun c d v hc hf hr=>ih c d v hf hr)
   exact VRels.mk h1 h2
  have cells:∀ (b off:Nat) (cs ds:List D),cs.mapM (frz p n x.s)=some ds→(∀ (i:Nat) (e:D),cs[i]?=some e→∃ v',w.cell? ⟨b,off+i,none⟩=some v'∧VRel (Mm M0 μ) w μ e v')→CRel Q w b off ds:=by
   intro b off cs ds hm hc
   obtain ⟨h1,h2⟩:=mapM_rel hm
   refine CRel.mk fun i d hd => ?_
   have hi:i<cs.length:=by
    rw [List.getElem?_eq_some_iff] at hd; obtain ⟨h,_⟩:=hd; omega
   have hci:cs[i]?=some cs[i]:=List.getElem?_eq_getElem hi
   obtain ⟨v',hv',hr⟩:=hc i _ hci
   exact ⟨v',hv',ih _ _ _ (h2 i _ d hci hd) hr⟩
  have old:p=false→∀ (d:D) (v:Value),d.pure=true→VRel (Mm M0 μ) w μ d v→VRel Q w mu0 d v:=fun e d v hpu hr=>
   VRel.mono (⟨Nat.le_refl _,fun _ _ _=>rfl,hp e⟩:Ext (Mm M0 μ) w Q w) d v (muLe.refl _) (VRel.pure d v hpu hr)
  cases d <;> simp only [frz,reduceCtorEq] at hf
  case agg cs=>
   simp only [Option.map_eq_some_iff] at hf
   obtain ⟨ds,hm,rfl⟩:=hf
   simp only [VRel] at hv ⊢
   obtain ⟨vs,rfl,hr⟩:=hv
   exact ⟨vs,rfl,lists _ _ _ hm hr⟩
  case tup cs=>
   simp only [Option.map_eq_some_iff] at hf
   obtain ⟨ds,hm,rfl⟩:=hf
   simp only [VRel] at hv ⊢
   obtain ⟨vs,rfl,hr⟩:=hv
   exact ⟨vs,rfl,lists _ _ _ hm hr⟩
  case iface t d=>
   simp only [Option.map_eq_some_iff] at hf
   obtain ⟨d',hd,rfl⟩:=hf
   simp only [VRel] at hv ⊢
   obtain ⟨y,rfl,hr⟩:=hv
   exact ⟨y,rfl,ih _ _ _ hd hr⟩
  case fn f a b=>
   simp only [Option.bind_eq_bind,Option.bind_eq_some_iff,Option.some.injEq] at hf
   obtain ⟨p',hp',q',hq',rfl⟩:=hf
   simp only [VRel] at hv ⊢
   obtain ⟨va,vb,rfl,h1,h2⟩:=hv
   exact ⟨va,vb,rfl,lists _ _ _ hp' h1,lists _ _ _ hq' h2⟩
  case ms nm off sz len cap=>
   simp only [VRel] at hv
   obtain ⟨l,b,h1,h2,rfl,h3,h4⟩:=hv
   have key:∀ (blk:Blk) (cs:List D),sget x.s nm=some blk→blkCells blk=some cs →
     (bif Nat.ble (off+len*sz) cs.length then (((cs.drop off).take (len*sz)).mapM (frz p n x.s)).map (D.sl (Nat.beq cap len) len) else none)=some d'→VRel Q w mu0 d' (.slice (some ⟨b,off,none⟩) len cap):=by
    intro blk cs hg hb hf
    cases hle:Nat.ble (off+len*sz) cs.length <;> rw [hle] at hf
    ·cases hf
    simp only [cond_true,Option.map_eq_some_iff] at hf
    obtain ⟨ds,hm,rfl⟩:=hf
    simp only [VRel]
    have hlt:b<w.heap.size:=(h.own nm l b h1 h2).2
    refine ⟨_,_,rfl,h3,fun he=>Nat.eq_of_beq_eq_true he,.inr ⟨b,off,rfl,hq nm l b h1 h2,hlt,?_⟩⟩
    refine cells b off _ _ hm (fun i e hi => ?_)
    rw [List.getElem?_take] at hi
    split at hi
    ·exact blk_at h hg hb h1 h2 off i e hi
    ·cases hi
   split at hf
   ·rename_i cs hg; exact key _ cs hg rfl hf
   ·rename_i cs hg; exact key _ cs hg rfl hf
   ·cases hf
  case gs nm off sz len=>
   simp only [VRel] at hv
   obtain ⟨⟨lb,lc⟩,cap,h1,rfl,h3,h4,h5⟩:=hv
   split at hf
   ·rename_i cs hg
    cases hle:Nat.ble (off+len*sz) cs.length <;> rw [hle] at hf
    ·cases hf
    simp only [cond_true,Option.map_eq_some_iff] at hf
    obtain ⟨ds,hm,rfl⟩:=hf
    simp only [VRel]
    refine ⟨_,_,rfl,h3,(fun he=>by simp at he),?_⟩
    cases lb with
    | none=>have:=h5 rfl; left; omega
    | some b=>
     have hlt:b<w.heap.size:=(h.own nm _ b h1 rfl).2
     refine .inr ⟨b,off,rfl,hq nm _ b h1 rfl,hlt,cells b off _ _ hm (fun i e hi => ?_)⟩
     rw [List.getElem?_take] at hi
     split at hi
     ·exact blk_at h hg rfl h1 rfl off i e hi
     ·cases hi
   ·cases hf
  case ptr nm off=>
   simp only [VRel] at hv
   obtain ⟨l,b,h1,h2,rfl⟩:=hv
   split at hf
   ·rename_i cs hg
    simp only [Option.map_eq_some_iff] at hf
    obtain ⟨ds,hm,rfl⟩:=hf
    have hlt:b<w.heap.size:=(h.own nm l b h1 h2).2
    simp only [VRel]
    refine ⟨b,0,by simp,hq nm l b h1 h2,hlt,cells b 0 _ _ hm (fun i e hi => ?_)⟩
    exact blk_at h hg rfl h1 h2 0 i e (by simpa using hi)
   ·cases hf
  case sl ex len cs=>
   cases p
   ·cases hf; exact old rfl _ _ rfl hv
   ·cases hf
  case iptr cs off=>
   cases p
   ·cases hf; exact old rfl _ _ rfl hv
   ·cases hf
  all_goals (cases hf; first|exact VRel.flat _ _ rfl hv|(simp only [VRel] at hv ⊢; exact hv))
theorem frzs_rel (h:Rel E M0 w0 N μ a w x) {p:Bool} {Q:Nat→Prop} (hq:∀ nm l b,μ nm=some l→l.blk=some b→¬ Q b) (hp:p=false→∀ b,b<w.heap.size→Q b→Mm M0 μ b)
  {n:Nat} {ds as:List D} {vs:List Value} (hf:ds.mapM (frz p n x.s)=some as) (hv:VRels (Mm M0 μ) w μ ds vs):VRels Q w mu0 as vs:=by
 obtain ⟨h1,h2⟩:=mapM_rels (R:=VRel (Mm M0 μ) w μ) (R':=VRel Q w mu0) hf hv.length (fun i c v hc hv'=>hv.at hc hv') (fun c d v _ hf hr=>frz_rel h hq hp n c d v hf hr)
 exact VRels.mk h1 h2
end
mutual
theorem frz_pure {s:St}:∀ (n:Nat) (d d':D),d.pure=true→frz false n s d=some d'→d'=d
 | 0,d,d',_,h=>by simp [frz] at h
 | n+1,d,d',hp,h=>by
  cases d <;> simp only [frz,reduceCtorEq,cond_false,Option.some.injEq] at h <;> simp only [D.pure,reduceCtorEq,Bool.false_eq_true] at hp
  case agg cs=>
   simp only [Option.map_eq_some_iff] at h
   obtain ⟨ds,hm,rfl⟩:=h
   rw [frz_pures n cs ds hp hm]
  case tup cs=>
   simp only [Option.map_eq_some_iff] at h
   obtain ⟨ds,hm,rfl⟩:=h
   rw [frz_pures n cs ds hp hm]
  case iface t d=>
   simp only [Option.map_eq_some_iff] at h
   obtain ⟨e,hm,rfl⟩:=h
   rw [frz_pure n d e hp hm]
  case fn f a b=>
   simp only [Bool.and_eq_true] at hp
   simp only [Option.bind_eq_bind,Option.bind_eq_some_iff,Option.some.injEq] at h
   obtain ⟨p',hp',q',hq',rfl⟩:=h
   rw [frz_pures n a p' hp.1 hp',frz_pures n b q' hp.2 hq']
  all_goals exact h.symm
theorem frz_pures {s:St}:∀ (n:Nat) (ds as:List D),D.pures ds=true→ds.mapM (frz false n s)=some as→as=ds
 | n,[],as,_,h=>by simp at h; exact h
 | n,d::ds,as,hp,h=>by
  simp only [D.pures,Bool.and_eq_true] at hp
  simp only [List.mapM_cons,Option.bind_eq_bind,Option.bind_eq_some_iff,Option.pure_def,Option.some.injEq] at h
  obtain ⟨e,h1,r,h2,rfl⟩:=h
  rw [frz_pure n d e hp.1 h1,frz_pures n ds r hp.2 h2]
end
def PureB (E:Env) (f:FuncId) (args:List D) (d:D) (fresh:Bool):Prop:=
 ∀ (M:Nat→Prop) (w:World) (vals:List Value),(∀ b,M b→b<w.heap.size)→GRel E M w→VRels M w mu0 args vals →
  callable E.P f=true∧Calls E.P f vals.toArray w fun e w'=>∃ v,e = .returned v∧VRel M w' mu0 d v∧(fresh=true→VRel (fun b=>b<w.heap.size) w' mu0 d v)∧w.heap.size≤w'.heap.size∧Env0 w w' ∧
   ∀ b,b<w.heap.size→w'.heap[b]?=w.heap[b]?
def pcall (o:List D→Option (D × Bool)) (args:List D) (s:St) (c:Nat):FR:=
 match args.mapM (frz false 20 s) with
 | some fa=>match o fa with
  | some p=>bif p.2||(p.1.flat||D.pures args) then .ok (.ret p.1) s c else .no
  | none => .no
 | none => .no
theorem SRel.mm_lt {E:Env} {M0:Nat→Prop} {w0:World} {μ:Mu} {w:World} {s:St} {c:Nat} (h:SRel E M0 w0 μ w s c) (b:Nat) (hb:Mm M0 μ b):b<w.heap.size:=by
 rcases hb with hb|⟨nm,l,h1,h2⟩
 ·exact Nat.lt_of_lt_of_le (h.m0lt b hb) h.size
 ·exact (h.own nm l b h1 h2).2
theorem sp_pcall {E:Env} {f:Nat} {o:List D→Option (D × Bool)} (ho:∀ fa p,o fa=some p→PureB E f fa p.1 p.2):SpOK E f (pcall o):=by
 intro M0 w0 μ w s c args vals out s' c' h hv hs
 unfold pcall at hs
 split at hs
 ·rename_i fa hfa
  split at hs
  ·rename_i p hp
   obtain ⟨d,fresh⟩:=p
   cases hc:(fresh||(d.flat||D.pures args)) <;> simp only [hc,cond_true,cond_false,reduceCtorEq] at hs
   cases hs
   have hB:=ho fa _ hp
   have hm0:∀ nm l b,μ nm=some l→l.blk=some b→¬ M0 b:=fun nm l b h1 h2 hm=>by have:=h.m0lt b hm; have:=h.own nm l b h1 h2; omega
   have hargs:VRels M0 w mu0 fa vals:=frzs_rel h hm0 (fun _ b _ hb => .inl hb) hfa hv
   have hlt0:∀ b,M0 b→b<w.heap.size:=fun b hb=>Nat.lt_of_lt_of_le (h.m0lt b hb) h.size
   have back:∀ {v:Value} {w':World} {M:Nat→Prop},VRel M w' mu0 d v→(∀ b,b<w'.heap.size→Mm M0 μ b→M b)→VRel (Mm M0 μ) w' μ d v:=fun {v w' M} hr hM=>
    VRel.mono (⟨Nat.le_refl _,fun _ _ _=>rfl,hM⟩:Ext M w' (Mm M0 μ) w') d v (mu0_le μ) hr
   by_cases hf:fresh=true
   ·obtain ⟨hcb,hcall⟩:=hB M0 w vals hlt0 h.globals0 hargs
    refine ⟨hcb,hcall.mono ?_⟩
    rintro e w' ⟨v,rfl,_,hfr,hsz,henv,hsame⟩
    obtain ⟨hR,hF⟩:=Rel.more h hsz henv hsame
    exact ⟨μ,hR,hF,v,rfl,back (hfr hf) fun b _ hb=>h.mm_lt b hb⟩
   ·by_cases hfl:d.flat=true
    ·obtain ⟨hcb,hcall⟩:=hB M0 w vals hlt0 h.globals0 hargs
     refine ⟨hcb,hcall.mono ?_⟩
     rintro e w' ⟨v,rfl,hvr,_,hsz,henv,hsame⟩
     obtain ⟨hR,hF⟩:=Rel.more h hsz henv hsame
     exact ⟨μ,hR,hF,v,rfl,VRel.flat d v hfl hvr⟩
    ·have hpu:D.pures args=true:=by
      cases e1:fresh
      ·cases e2:d.flat
       ·rw [e1,e2] at hc; simpa using hc
       ·exact absurd e2 hfl
      ·exact absurd e1 hf
     have hid:fa=args:=frz_pures 20 _ _ hpu hfa
     subst hid
     have hargs':VRels (Mm M0 μ) w mu0 fa vals:=VRels.pure fa vals hpu hv
     obtain ⟨hcb,hcall⟩:=hB (Mm M0 μ) w vals h.mm_lt h.globals hargs'
     refine ⟨hcb,hcall.mono ?_⟩
     rintro e w' ⟨v,rfl,hvr,_,hsz,henv,hsame⟩
     obtain ⟨hR,hF⟩:=Rel.more h hsz henv hsame
     exact ⟨μ,hR,hF,v,rfl,back hvr fun b _ hb=>hb⟩
  ·cases hs
 ·cases hs
def pev (cx:Cx) (k m f:Nat) (args:List D):Option (D × Bool):=
 match zcall cx k (zN cx k m) f args st0 0 with
 | .ok (.ret r) s _=>match frz true 20 s r with
  | some d=>some (d,true)
  | none=>(frz false 20 s r).map fun d=>(d,false)
 | _=>none
theorem pev_sound {E:Env} {cx:Cx} (H:POK E cx) {k m f:Nat} {args:List D} {p:D × Bool} (h:pev cx k m f args=some p):PureB E f args p.1 p.2:=by
 intro M w vals hM hG hv
 unfold pev at h
 split at h
 ·rename_i r s' c' hr
  have hS:SRel E M w mu0 w st0 0:=
   {size:=Nat.le_refl _,old:=fun _ _=>rfl,m0lt:=hM,defers:=by simp only [DfRel],n:=Nat.zero_le _,tm:=fun n=>by rw [tget_nil]; simp only [VRel]
    st:=fun nm blk l hl=>by simp [mu0] at hl
    lt:=fun nm l hl=>by simp [mu0] at hl
    own:=fun nm l b hl=>by simp [mu0] at hl
    inj:=fun n m l l' b _ _ hl=>by simp [mu0] at hl
    glob:=hG,env:=⟨rfl,rfl⟩ }
  have hx:Ext M w (Mm M mu0) w:=⟨Nat.le_refl _,fun _ _ _=>rfl,fun b hb hm=>by
   rcases hm with hm|⟨nm,l,e,_⟩
   ·exact hm
   ·simp [mu0] at e⟩
  obtain ⟨hcb,hc⟩:=zcall_ok H.body (⟨(zn_ok H k m).1,H.meth,H.glob,H.mixed⟩:Ctx E cx (zN cx k m).fn) (zn_ok H k m).2 k hS (VRels.mono hx _ _ (muLe.refl _) hv) hr
  refine ⟨hcb,hc.mono ?_⟩
  rintro e w' ⟨μ',hS',hF,v,rfl,hvr⟩
  have hnm:∀ nm l b,μ' nm=some l→l.blk=some b→¬ M b:=fun nm l b h1 h2 hm=>by have:=hM b hm; have:=(hS'.own nm l b h1 h2).1; omega
  have hnw:∀ nm l b,μ' nm=some l→l.blk=some b→¬ (b<w.heap.size):=fun nm l b h1 h2 hm=>by have:=(hS'.own nm l b h1 h2).1; omega
  have tail:w.heap.size≤w'.heap.size∧Env0 w w'∧∀ b,b<w.heap.size→w'.heap[b]?=w.heap[b]?:=⟨hF.size,hS'.env,fun b hb=>hS'.old b hb⟩
  split at h
  ·rename_i d hd
   cases h
   exact ⟨v,rfl,frz_rel hS' hnm (fun e=>by cases e) 20 r d v hd hvr,fun _=>frz_rel hS' hnw (fun e=>by cases e) 20 r d v hd hvr,tail⟩
  ·rename_i hd
   simp only [Option.map_eq_some_iff] at h
   obtain ⟨d,hd,rfl⟩:=h
   exact ⟨v,rfl,frz_rel hS' hnm (fun _ b _ hb => .inl hb) 20 r d v hd hvr,(fun e=>by cases e),tail⟩
 ·cases h
/-! How the calls of a run are told. -/
section
variable {B:Cx} {ps:Nat→Bool} {k m:Nat}
def pout (r:FR):Option (D × Bool):=match r with
 | .ok (.ret r) s _=>match frz true 20 s r with
  | some d=>some (d,true)
  | none=>(frz false 20 s r).map fun d=>(d,false)
 | _=>none
end
end
end Zv
