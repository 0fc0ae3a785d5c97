/- Ranges over maps of many entries, in every order; contracts from runs in all orders. Conditions: none. -/
import Derived.Test.YtoefcncofakjkaaGreatDoorCH
import Derived.ChangeArms
import Derived.OpenShut
import Derived.ReadAgain
import Derived.ChangeCalls
import Derived.RowKit
import Derived.WalkKit
import Derived.ProofKit
set_option linter.unusedSimpArgs false
set_option linter.unusedVariables false
namespace Zv
open Go
noncomputable def nxmAll (a:Arg) (G:List (Nat × List D)) (x:AS):Option (List (D × AS)):=match a.ev G x.t with
 | .it nm=>match sget x.s nm with
  | some (.mit (some m) since seen last)=>match sget x.s m with
   | some (.mp es c)=>
    bif (seen.isEmpty||es.isEmpty||es.any (fun e=>Nat.blt e.2.2 last))&&(Nat.ble 2 (es.filter (fun e => !seen.any (Nat.beq e.2.2))).length&&(es.filter (fun e => !seen.any (Nat.beq e.2.2))).all (fun e=>Nat.blt e.2.2 since)) then
     some ((es.filter (fun e => !seen.any (Nat.beq e.2.2))).map fun e=>(.tup [.bool true,e.1,e.2.1],{ x with s:=sset x.s nm (.mit (some m) since (seen++[e.2.2]) c) }))
    else none
   | _=>none
  | _=>none
 | _=>none
theorem MEs.nth {M:Nat→Prop} {w:World} {μ:Mu}:∀ {es:List (D × D × Nat)} {ents:List MapEntry} {j:Nat} {e:MapEntry},MEs M w μ es ents→ents[j]?=some e →
  ∃ k v,es[j]?=some (k,v,e.born)∧VRel M w μ k e.key∧VRel M w μ v e.val
 | [],_,j,e,h,he=>by simp only [MEs] at h; subst h; simp at he
 | (k,v,n)::r,_,0,e,h,he=>by
  simp only [MEs] at h
  obtain ⟨e0,r',rfl,h1,h2,h3,h4⟩:=h
  simp only [List.getElem?_cons_zero,Option.some.injEq] at he
  subst he
  exact ⟨k,v,by simp [h3],h1,h2⟩
 | (k,v,n)::r,_,j+1,e,h,he=>by
  simp only [MEs] at h
  obtain ⟨e0,r',rfl,h1,h2,h3,h4⟩:=h
  obtain ⟨k',v',g1,g2,g3⟩:=MEs.nth h4 (by simpa using he)
  exact ⟨k',v',by simpa using g1,g2,g3⟩
theorem run_mapNext {P:Program} {n:Nat} (hn:2≤n) (w:World):∃ j,j<n∧(choose (.mapNext n)).run P w = .ok j w.drew:=
 ⟨_,Nat.mod_lt _ (by omega),by
  have hf:¬ n≤1:=by omega
  simp only [choose,Sem.run,Question.forced,decide_eq_true_eq,hf,if_false,Question.cut]
  rfl⟩
section
variable {E:Env} {M0:Nat→Prop} {w0:World} {N:Nat} {μ:Mu} {M:Nat→Prop} {a:Act} {w:World} {x:AS}
theorem op_nxm_all (h:Rel E M0 w0 N μ a w x) {o:Operand} {ar:Arg} (h2:cArg o=some ar) {ty:TypeId} {l:List (D × AS)} (hs:nxmAll ar E.G x=some l) :
  ∃ p∈l,gd E M0 w0 N μ w x a p.1 p.2 w (do pure (.value (←Instr.next (a.eval o) false ty))):=by
 have hv:=arg_rel h h2
 generalize a.eval o=v at *
 unfold nxmAll at hs
 split at hs
 ·rename_i nm he
  rw [he] at hv; simp only [VRel] at hv
  obtain ⟨l0,b,k1,k2,rfl⟩:=hv
  split at hs
  ·rename_i m since sn last hg
   obtain ⟨l',b',mo,g1,g2,g3,g4,g5⟩:=h.st nm _ _ k1 hg
   rw [k1] at g1; cases g1; rw [k2] at g2; cases g2
   obtain ⟨lm,bm,m1,m2,rfl⟩:=g5
   have hobj:=run_getObj (P:=E.P) g4 (by intro _ _ _ hh; cases hh)
   split at hs
   ·rename_i es c hgm
    obtain ⟨lm',bm',ents,q1,q2,q3,q4,q5⟩:=h.st m _ _ m1 hgm
    rw [m1] at q1; cases q1; rw [m2] at q2; cases q2
    have hobjm:=run_getObj (P:=E.P) q4 (by intro _ _ _ hh; cases hh)
    cases hcond:((sn.isEmpty||es.isEmpty||es.any (fun e=>Nat.blt e.2.2 last))&&(Nat.ble 2 (es.filter (fun e => !sn.any (Nat.beq e.2.2))).length&&(es.filter (fun e => !sn.any (Nat.beq e.2.2))).all (fun e=>Nat.blt e.2.2 since))) <;> rw [hcond] at hs
    ·cases hs
    simp only [cond_true,Option.some.injEq] at hs
    subst hs
    simp only [Bool.and_eq_true] at hcond
    obtain ⟨hc1,hc2,hc3⟩:=hcond
    have hempty:ents.isEmpty=es.isEmpty:=by
     have hl:ents.toList.length=es.length:=MEs.length q5
     rw [Bool.eq_iff_iff]
     simp only [Array.isEmpty_iff,List.isEmpty_iff,←List.length_eq_zero_iff,←hl]
     simp
    have hguard:(!sn.toArray.isEmpty && !ents.isEmpty&&ents.all fun x=>decide (x.born≥last))=false:=by
     have hany:es.any (fun e=>Nat.blt e.2.2 last)=ents.toList.any (fun e=>Nat.blt e.born last):=
      MEs.any (p:=fun e=>Nat.blt e.2.2 last) (q:=fun e=>Nat.blt e.born last) (fun k v n e hh=>by simp only [hh]) q5
     have hall:ents.all (fun x=>decide (x.born≥last)) = !(ents.toList.any (fun e=>Nat.blt e.born last)):=by
      rw [←Array.all_toList,Bool.eq_iff_iff]
      simp [Nat.blt_eq]
     rw [hall,←hany,hempty,show sn.toArray.isEmpty=sn.isEmpty by simp]
     revert hc1
     cases sn.isEmpty <;> cases es.isEmpty <;> cases es.any (fun e=>Nat.blt e.2.2 last) <;> simp
    have hleft:=MEs.filter (p:=fun e => !sn.any (Nat.beq e.2.2)) (q:=fun e => !sn.toArray.contains e.born) (fun k v n e hh=>by
     subst hh
     show (!sn.any (Nat.beq e.born)) = !sn.toArray.contains e.born
     rw [Bool.eq_iff_iff]
     simp only [Bool.not_eq_true',List.any_eq_false,Nat.beq_eq,List.contains_toArray,List.elem_eq_mem,decide_eq_false_iff_not]
     exact ⟨fun g hm=>g _ hm rfl,fun g x hx e=>g (e ▸ hx)⟩) q5
    have hfl:(ents.filter fun e => !sn.toArray.contains e.born).toList=ents.toList.filter fun e => !sn.toArray.contains e.born:=by simp
    rw [←hfl] at hleft
    generalize hLe:ents.filter (fun e => !sn.toArray.contains e.born)=left at hleft
    generalize es.filter (fun e => !sn.any (Nat.beq e.2.2))=L at hleft hc2 hc3 ⊢
    have hlen:left.size=L.length:=by have:=MEs.length hleft; simpa using this
    have hn2:2≤left.size:=by rw [hlen]; exact Nat.le_of_ble_eq_true hc2
    obtain ⟨j,hj,hch⟩:=run_mapNext (P:=E.P) hn2 w
    have hej:left.toList[j]?=some (left[j]'hj):=by simp [hj]
    obtain ⟨kd,vd,r1,r2,r3⟩:=MEs.nth hleft hej
    generalize hee:left[j]'hj=e at hej r1 r2 r3
    have hborn:∀ e∈left,e.born<since:=by
     intro e hm
     obtain ⟨i,hi,rfl⟩:=Array.mem_iff_getElem.1 hm
     obtain ⟨kd,vd,t1,_,_⟩:=MEs.nth hleft (j:=i) (e:=left[i]) (by simp [hi])
     have:=List.all_eq_true.1 hc3 _ (List.mem_of_getElem? t1)
     simpa [Nat.blt_eq] using this
    have e1:left.filter (fun x=>decide (x.born<since))=left:=Array.filter_eq_self.2 (fun x hx=>by simpa using hborn x hx)
    have e2:left.filter (fun x=>decide (x.born≥since)) = #[]:=by
     rw [Array.filter_eq_empty_iff]
     intro x hx
     have:=hborn x hx
     simp
     omega
    have hb:b<w.heap.size:=(h.own nm l0 b k1 k2).2
    have hw1:Rel E M0 w0 N μ a w.drew x:=h.world rfl
    have hdr:Ext (Mm M0 μ) w (Mm M0 μ) w.drew:=⟨Nat.le_refl _,fun _ _ _=>rfl,fun _ _ h=>h⟩
    let w':World:={ w.drew with heap:=w.heap.setIfInBounds b (.mapIter (some bm) since (sn.toArray.push e.born) c) }
    obtain ⟨hx,hR,hf⟩:=hw1.write nm (.mit (some m) since (sn++[e.born]) c) l0 b (w':=w') (x':={ x with s:=sset x.s nm (.mit (some m) since (sn++[e.born]) c) }) k1 k2 (by rw [hg]; rfl) (by show (w.heap.setIfInBounds b _).size=w.heap.size; simp)
     (fun k hk=>by simp only [w']; rw [Array.getElem?_setIfInBounds_ne (fun e=>hk e.symm)]; rfl) (fun n=>rfl) (fun n=>by rw [sget_sset]) rfl rfl
     (fun hx=>⟨l0,b,some bm,k1,k2,g3,by simp [w',hb],lm,bm,m1,m2,rfl⟩)
    refine ⟨_,List.mem_map.2 ⟨_,List.mem_of_getElem? r1,rfl⟩,.tuple #[.bool true,e.key,e.val],w',μ,.inl (run_value ?_),?_,hR,⟨hf.size,hf.same,hf.live,hf.mu,hf.cle,hf.kept,hf.new⟩⟩
    ·have hset:=run_setObj (P:=E.P) (w:=w.drew) (o' := .mapIter (some bm) since (sn.toArray.push e.born) c) (show w.drew.heap[b]?=_ from g4) (by intro _ _ _ hh; cases hh)
     have hne:left.isEmpty=false:=by
      rw [Bool.eq_false_iff]
      intro e0
      rw [Array.isEmpty_iff] at e0
      rw [e0] at hn2; simp at hn2
     have hje:(left.map some)[j]?=some (some e):=by simp [hj,hee]
     simp only [Instr.next,Sem.run_bind,hobj,Result.andThen_ok,hobjm,hguard,Bool.false_eq_true,if_false,hLe,Sem.run_pure,e1,e2,hne,Array.append_empty,Array.empty_append,Array.size_map,hch,hje,hset]
     rfl
    ·simp only [VRel]
     exact ⟨_,rfl,VRels.cons (by simp only [VRel]) (VRels.cons (VRel.mono hx _ _ (muLe.refl _) (VRel.mono hdr _ _ (muLe.refl _) r2)) (VRels.cons (VRel.mono hx _ _ (muLe.refl _) (VRel.mono hdr _ _ (muLe.refl _) r3)) VRels.nil))⟩
   ·cases hs
  ·cases hs
 ·cases hs
end
theorem cOp_nxm {P:Program} {o:Oper} {ar:Arg} (h:cOp P o=some (.nxm ar)):∃ y,o.op = .next y false∧cArg y=some ar:=by
 unfold cOp at h
 split at h
 ·rename_i op he
  cases h
  rcases (cExt_kind he).1 with ⟨k,l,e⟩|⟨k,l,e⟩ <;> cases e
 ·cases ho:o.op
  case next y s=>
   simp only [cOp0,ho] at h
   cases s
   ·simp only [cond_false,Option.bind_eq_bind,Option.bind_eq_some_iff,Option.some.injEq,AOp.nxm.injEq] at h
    obtain ⟨r,h1,rfl⟩:=h
    exact ⟨y,rfl,h1⟩
   ·simp only [cond_true,Option.bind_eq_bind,Option.bind_eq_some_iff,Option.some.injEq,reduceCtorEq,and_false,exists_false] at h
  all_goals
   exfalso
   simp only [cOp0,ho] at h
   repeat' (first|contradiction|(cases h; done)|(split at h)|(simp only [Option.bind_eq_bind,Option.bind_eq_some_iff,Option.some.injEq,reduceCtorEq,and_false,exists_false,cond_eq_ite] at h)|(obtain ⟨_,_,h⟩:=h))
noncomputable section
def bAlt (o:AOper) (G:List (Nat × List D)) (x:AS):Option (List (D × AS)):=
 match o.op with
 | .nxm a=>nxmAll a G x
 | _=>none
def bThen (l:List R) (f:AS→List R):List R:=l.flatMap fun r=>match r with
 | .ok .normal y=>f y
 | r=>[r]
def bOps (cx:Cx) (cl:CL):List AOper→AS→List R
 | [],x=>[.ok .normal x]
 | o::r,x=>match wanted o x with
  | none=>[.no]
  | some false=>bOps cx cl r (x.put o.dst (.tup []))
  | some true=>match bAlt o cx.G x with
   | some l=>l.flatMap fun p=>bOps cx cl r ⟨putT o.dst p.2.t p.1,p.2.s,p.2.c,p.2.d,p.2.r⟩
   | none=>bThen [zOp cx cl o x] (bOps cx cl r)
def AC.nx:AC→Bool
 | .reg none ops=>ops.any fun o=>match o.op with | .nxm _=>true|_=>false
 | .seq a b=>a.nx||b.nx
 | .cond _ a b=>a.nx||b.nx
 | .block _ a=>a.nx
 | .loop a=>a.nx
 | .scope a=>a.nx
 | _=>false
def bLoop (f:AS→List R):Nat→AS→List R
 | 0,_=>[.no]
 | n+1,x=>bThen (f x) (bLoop f n)
def bC (cx:Cx) (cl:CL) (k:Nat):AC→AS→List R
 | .reg none ops,x=>bOps cx cl ops x
 | .seq a b,x=>bif a.nx||b.nx then bThen (bC cx cl k a x) (bC cx cl k b) else [zC (.seq a b) cx cl k x]
 | .cond c a b,x=>match c.ev cx.G x.t with
  | .bool r=>bif r then bC cx cl k a x else bC cx cl k b x
  | _=>[.no]
 | .block id a,x=>bif a.nx then (bC cx cl k a x).map fun r=>(R.rec .no (zblk id) r:R) else [zC (.block id a) cx cl k x]
 | .loop a,x=>bif a.nx then bLoop (bC cx cl k a) k x else [zC (.loop a) cx cl k x]
 | .scope a,x=>bC cx cl k a x
 | c,x=>[zC c cx cl k x]
section
variable {E:Env} {cx:Cx} {M0:Nat→Prop} {w0:World} {N:Nat} {μ:Mu} {M:Nat→Prop} {a:Act} {w:World} {x:AS} {b:Frame} {k:List Item} {cs:List Frame} {cl:CL}
def DB (E:Env) (M0:Nat→Prop) (w0:World) (N:Nat) (μ:Mu) (w:World) (x:AS) (m:Machine) (b:Frame) (k:List Item) (cs:List Frame) (l:List R):Prop:=
 ∃ r∈l,∀ out y,r = .ok out y→Did E M0 w0 N μ w x m b k cs out y
theorem DB.one {m:Machine} {r:R} (h:∀ out y,r = .ok out y→Did E M0 w0 N μ w x m b k cs out y):DB E M0 w0 N μ w x m b k cs [r]:=⟨r,List.mem_singleton.2 rfl,h⟩
theorem DB.of_steps {m m':Machine} {l:List R} (hs:Steps E.P m m') (h:DB E M0 w0 N μ w x m' b k cs l):DB E M0 w0 N μ w x m b k cs l:=by
 obtain ⟨r,h1,h2⟩:=h
 exact ⟨r,h1,fun out y e=>(h2 out y e).of_steps hs⟩
theorem DB.bthen {m:Machine} {it:Item} {l:List R} {f:AS→List R} (hx:∀ id,jumpTo id (it::k)=jumpTo id k) (h1:DB E M0 w0 N μ w x m b (it::k) cs l)
  (h2:∀ z a' w' μ',Rel E M0 w0 N μ' a' w' z→muLe μ μ'→z.r=x.r→DB E M0 w0 N μ' w' z (lone (fat b a' (it::k)) cs w') b k cs (f z)) :
  DB E M0 w0 N μ w x m b k cs (bThen l f):=by
 obtain ⟨r,hr,hD⟩:=h1
 have hmem:∀ q,(q∈(match r with | .ok .normal y=>f y|r=>[r]))→q∈bThen l f:=fun q hq=>List.mem_flatMap.2 ⟨r,hr,hq⟩
 cases r with
 | no=>exact ⟨.no,hmem _ (List.mem_singleton.2 rfl),fun out y e=>by cases e⟩
 | ok o z=>
  cases o with
  | normal=>
   obtain ⟨a1,w1,μ1,ou1,r1,f1,e1,o1,n1⟩:=hD .normal z rfl
   cases o1
   obtain ⟨q,hq,hQ⟩:=h2 z a1 w1 μ1 r1 f1.mu e1
   refine ⟨q,hmem _ hq,fun out y e => ?_⟩
   obtain ⟨a2,w2,μ2,ou2,r2,f2,e2,o2,n2⟩:=hQ out y e
   exact ⟨a2,w2,μ2,ou2,r2,f1.trans f2,e2.trans e1,o2,n2.of_steps n1⟩
  | exit i=>exact ⟨_,hmem _ (List.mem_singleton.2 rfl),fun out y e=>by cases e; exact (hD _ _ rfl).pass hx nofun⟩
  | ret=>exact ⟨_,hmem _ (List.mem_singleton.2 rfl),fun out y e=>by cases e; exact (hD _ _ rfl).pass hx nofun⟩
  | pan c=>exact ⟨_,hmem _ (List.mem_singleton.2 rfl),fun out y e=>by cases e; exact (hD _ _ rfl).pass hx nofun⟩
theorem bops_did (hcl:CallOK E cl) (hM:∀ t n f,cx.M t n=some f→methF E.P t n=some f) (hG:cx.G=E.G) {ops:Array Oper} :
  ∀ {l:List Oper} {idx:List Nat} {as:List AOper} {μ:Mu} {a:Act} {w:World} {x:AS},Rel E M0 w0 N μ a w x→RoundOK b x.r μ→idx.map (ops[·]?)=l.map some→cOpers E.P N ops l=some as →
   DB E M0 w0 N μ w x (lone (fat b a (.inRegion ops idx::k)) cs w) b k cs (bOps cx cl as x):=by
 intro l
 induction l with
 | nil=>
  intro idx as μ a w x h hro hi hc
  simp only [List.map_nil,List.map_eq_nil_iff] at hi
  subst hi
  simp only [cOpers,Option.some.injEq] at hc
  subst hc
  exact DB.one fun out y e=>by cases e; exact ⟨a,w,μ,.normal,h,Fr.refl _ _ _ _,rfl,rfl,.one fstep_region_end⟩
 | cons o l ih=>
  intro idx as μ a w x h hro hi hc
  cases idx with
  | nil=>cases hi
  | cons i rest=>
   simp only [List.map_cons,List.cons.injEq] at hi
   obtain ⟨hio,hi⟩:=hi
   simp only [cOpers,Option.bind_eq_bind,Option.bind_eq_some_iff,Option.some.injEq] at hc
   obtain ⟨ao,hao,r,hr,rfl⟩:=hc
   obtain ⟨hop,hdst,hgd,hd⟩:=cOper_spec hao
   cases hwd:wanted ao x with
   | none=>
    have:bOps cx cl (ao::r) x=[.no]:=by simp only [bOps,hwd]
    rw [this]
    exact DB.one fun out y e=>by cases e
   | some c=>
    have hw:=wanted_rel h hgd hwd
    cases c with
    | true=>
     cases hal:bAlt ao cx.G x with
     | none=>
      have:bOps cx cl (ao::r) x=bThen [zOp cx cl ao x] (bOps cx cl r):=by simp only [bOps,hwd,hal]
      rw [this]
      exact DB.bthen (it := .inRegion ops rest) (fun _=>rfl) (DB.one fun out y hz=>op_did hcl hM hG h hro hao hio hw hz)
       (fun z a' w' μ' g1 g2 g3=>ih g1 (by rw [g3]; exact hro.mono g2) hi hr)
     | some l'=>
      have hbo:bOps cx cl (ao::r) x=l'.flatMap fun p=>bOps cx cl r ⟨putT ao.dst p.2.t p.1,p.2.s,p.2.c,p.2.d,p.2.r⟩:=by simp only [bOps,hwd,hal]
      rw [hbo]
      unfold bAlt at hal
      split at hal
      ·rename_i ar hnx
       rw [hnx] at hop
       obtain ⟨y,hoy,hay⟩:=cOp_nxm hop
       rw [hG] at hal
       obtain ⟨p,hp,v,w',μ',hrun,hv,hR,hf⟩:=op_nxm_all (ty:=o.type) h hay hal
       have hpr:p.2.r=x.r:=by
        unfold nxmAll at hal
        repeat' (first|contradiction|(split at hal)|(simp only [cond_eq_ite,Option.some.injEq] at hal))
        subst hal
        obtain ⟨e,_,rfl⟩:=List.mem_map.1 hp
        rfl
       have hg:=fstepG_op (P:=E.P) (b:=b) (k:=k) (cs:=cs) (w:=w) (rest:=rest) hio hw (.inr (fun c e=>by rw [hoy] at e; cases e))
       have hfin:∀ a v,(fat b a (.inRegion ops (i::rest)::k)).finish v=fat b (a.put o.dst v) (.inRegion ops rest::k):=fun a v=>by
        rw [fat_finish,hio]; rfl
       have hput:=hR.put (dst:=o.dst) hd hv
       have hex:(execOp a.eval o).run E.P w=(do pure (.value (←Instr.next (a.eval y) false o.type)):Sem Next).run E.P w:=by simp only [execOp,hoy]
       have hst:Go.step E.P (lone (fat b a (.inRegion ops (i::rest)::k)) cs w) = .next (lone (fat b (a.put o.dst v) (.inRegion ops rest::k)) cs w'):=by
        refine step_lone_go ?_
        rw [hg,←hfin]
        rcases hrun with hr|⟨hr,rfl⟩
        ·exact apply_value (hex.trans hr)
        ·exact apply_skip (hex.trans hr)
       have hput':Rel E M0 w0 N μ' (a.put o.dst v) w' ⟨putT ao.dst p.2.t p.1,p.2.s,p.2.c,p.2.d,p.2.r⟩:=by
        rw [hdst]; revert hput; cases o.dst <;> exact id
       obtain ⟨q,hq,hQ⟩:=ih hput' (by show RoundOK b p.2.r μ'; rw [hpr]; exact hro.mono hf.mu) hi hr
       refine ⟨q,List.mem_flatMap.2 ⟨p,hp,hq⟩,fun out z e => ?_⟩
       obtain ⟨a2,w2,μ2,ou2,r2,f2,e2,o2,n2⟩:=hQ out z e
       exact ⟨a2,w2,μ2,ou2,r2,hf.trans f2,e2.trans hpr,o2,n2.of_steps (.one hst)⟩
      ·cases hal
    | false=>
     have hput:Rel E M0 w0 N μ (a.put o.dst undef) w (x.put ao.dst (.tup [])):=by
      rw [hdst]; exact h.put hd (by simp only [VRel]; exact ⟨#[],rfl,rfl⟩)
     have hst:=fstep_op_skip (P:=E.P) (b:=b) (a:=a) (k:=k) (cs:=cs) (w:=w) (ops:=ops) (i:=i) (rest:=rest) (by simp [hio,hw])
     simp only [hio,Option.bind_some] at hst
     have hbo:bOps cx cl (ao::r) x=bOps cx cl r (x.put ao.dst (.tup [])):=by simp only [bOps,hwd]
     rw [hbo]
     obtain ⟨q,hq,hQ⟩:=ih hput (by rw [(put_r x _ _).1]; exact hro) hi hr
     refine DB.of_steps (.one hst) ⟨q,hq,fun out y e => ?_⟩
     obtain ⟨a',w',μ',ou,h1,h2,h3,h4,h5⟩:=hQ out y e
     exact ⟨a',w',μ',ou,h1,by revert h2; cases ao.dst <;> exact id,h3.trans (put_r x _ _).1,h4,h5⟩
theorem bloop_did {c:Code} {f:AS→List R}:∀ (n:Nat) {μ:Mu} {a:Act} {w:World} {x:AS},
  (∀ {μ:Mu} {a:Act} {w:World} {x:AS},Rel E M0 w0 N μ a w x→RoundOK b x.r μ→DB E M0 w0 N μ w x (lone (fat b a (.code c :: .inLoop c::k)) cs w) b (.inLoop c::k) cs (f x)) →
  Rel E M0 w0 N μ a w x→RoundOK b x.r μ→DB E M0 w0 N μ w x (lone (fat b a (.code c :: .inLoop c::k)) cs w) b k cs (bLoop f n x)
 | 0,μ,a,w,x,_,_,_=>DB.one fun out y e=>by cases e
 | n+1,μ,a,w,x,hf,h,hro=>
  DB.bthen (it := .inLoop c) (fun _=>rfl) (hf h hro) (fun z a' w' μ' g1 g2 g3=>DB.of_steps (.one fstep_inLoop) (bloop_did n hf g1 (by rw [g3]; exact hro.mono g2)))
theorem bcode_did (H:Ctx E cx cl):∀ (c:Code) {ac:AC},comp E.P N c=some ac→∀ {fuel:Nat} {μ:Mu} {a:Act} {w:World} {x:AS} {b:Frame} {k:List Item},Rel E M0 w0 N μ a w x→RoundOK b x.r μ →
  DB E M0 w0 N μ w x (lone (fat b a (.code c::k)) cs w) b k cs (bC cx cl fuel ac x):=by
 intro c
 have fall:∀ (c:Code) {ac:AC},comp E.P N c=some ac→∀ {fuel:Nat} {μ:Mu} {a:Act} {w:World} {x:AS} {b:Frame} {k:List Item},Rel E M0 w0 N μ a w x→RoundOK b x.r μ →
   DB E M0 w0 N μ w x (lone (fat b a (.code c::k)) cs w) b k cs [zC ac cx cl fuel x]:=fun c ac hc fuel μ a w x b k h hro=>DB.one fun out y e=>code_did H c hc h hro e
 induction c with
 | skip=>intro ac hc fuel μ a w x b k h hro; have hc':=hc; simp only [comp,Option.some.injEq] at hc; subst hc; simp only [bC]; exact fall _ hc' h hro
 | label l=>intro ac hc fuel μ a w x b k h hro; have hc':=hc; simp only [comp,Option.some.injEq] at hc; subst hc; simp only [bC,AC.nx,cond_false]; exact fall _ hc' h hro
 | exit id=>intro ac hc fuel μ a w x b k h hro; have hc':=hc; simp only [comp,Option.some.injEq] at hc; subst hc; simp only [bC]; exact fall _ hc' h hro
 | ret=>intro ac hc fuel μ a w x b k h hro; have hc':=hc; simp only [comp,Option.some.injEq] at hc; subst hc; simp only [bC]; exact fall _ hc' h hro
 | goto l=>intro ac hc fuel μ a w x b k h hro; have hc':=hc; simp only [comp,Option.some.injEq] at hc; subst hc; simp only [bC]; exact fall _ hc' h hro
 | refuse s=>intro ac hc; simp [comp] at hc
 | rangeFunc f ps p q ihp ihq=>
  intro ac hc fuel μ a w x b k h hro
  have hc':=hc
  simp only [comp,Option.bind_eq_bind,Option.bind_eq_some_iff] at hc
  obtain ⟨g,hg,p',hp,q',hq,hc⟩:=hc
  cases hps:(ps.toList.all fun p=>Nat.blt p N) <;> rw [hps] at hc
  ·cases hc
  ·simp only [cond_true,Option.some.injEq] at hc
   subst hc
   simp only [bC]
   exact fall _ hc' h hro
 | region id ops draw=>
  intro ac hc fuel μ a w x b k h hro
  have hc':=hc
  simp only [comp,Option.bind_eq_bind,Option.bind_eq_some_iff] at hc
  obtain ⟨l,hl,hc⟩:=hc
  cases draw with
  | false=>
   simp only [cond_false,Option.some.injEq] at hc
   subst hc
   simp only [bC]
   refine DB.of_steps (.one fstep_region) (bops_did H.call H.meth H.glob h hro ?_ hl)
   apply List.ext_getElem?
   intro j
   simp only [List.getElem?_map,List.getElem?_range]
   by_cases hj:j<ops.size
   ·simp [hj]
   ·simp [hj]
  | true=>
   simp only [cond_true] at hc
   cases hok:(orderOK ops.size (ancs ops.toList []) l (mkOrder (ancs ops.toList []) (l.map fun o=>o.op.kd)) 0 [] []&&Nat.ble ops.size (mkOrder (ancs ops.toList []) (l.map fun o=>o.op.kd)).length) <;> rw [hok] at hc
   ·cases hc
   ·simp only [cond_true,Option.some.injEq] at hc
    subst hc
    simp only [bC]
    exact fall _ hc' h hro
 | seq p q ihp ihq=>
  intro ac hc fuel μ a w x b k h hro
  have hc':=hc
  simp only [comp,Option.bind_eq_bind,Option.bind_eq_some_iff,Option.some.injEq] at hc
  obtain ⟨p',hp,q',hq,rfl⟩:=hc
  simp only [bC]
  cases hn:(p'.nx||q'.nx)
  ·exact fall _ hc' h hro
  ·simp only [cond_true]
   exact DB.of_steps (.one fstep_seq) (DB.bthen (it := .code q) (fun _=>rfl) (ihp hp h hro) (fun z a' w' μ' g1 g2 g3=>ihq hq g1 (by rw [g3]; exact hro.mono g2)))
 | cond c p q ihp ihq=>
  intro ac hc fuel μ a w x b k h hro
  simp only [comp,Option.bind_eq_bind,Option.bind_eq_some_iff,Option.some.injEq] at hc
  obtain ⟨c',hcc,rfl⟩:=hc
  have hv:=arg_rel h hcc
  simp only [bC]
  rw [H.glob]
  split
  ·rename_i r he
   rw [he] at hv
   simp only [VRel] at hv
   refine DB.of_steps (.one (fstep_cond hv)) ?_
   cases r with
   | true=>
    cases hp:comp E.P N p with
    | none=>exact DB.one (r := .no) fun out y e=>by cases e
    | some p'=>exact ihp hp h hro
   | false=>
    cases hq:comp E.P N q with
    | none=>exact DB.one (r := .no) fun out y e=>by cases e
    | some q'=>exact ihq hq h hro
  ·exact DB.one fun out y e=>by cases e
 | block id p ih=>
  intro ac hc fuel μ a w x b k h hro
  have hc':=hc
  simp only [comp,Option.bind_eq_bind,Option.bind_eq_some_iff,Option.some.injEq] at hc
  obtain ⟨p',hp,rfl⟩:=hc
  simp only [bC]
  cases hn:p'.nx
  ·exact fall _ hc' h hro
  ·obtain ⟨r,h1,h2⟩:=ih (k := .inBlock id::k) (fuel:=fuel) hp h hro
   exact ⟨_,List.mem_map.2 ⟨r,h1,rfl⟩,fun out y e=>block_did e h2⟩
 | loop p ih=>
  intro ac hc fuel μ a w x b k h hro
  have hc':=hc
  simp only [comp,Option.bind_eq_bind,Option.bind_eq_some_iff,Option.some.injEq] at hc
  obtain ⟨p',hp,rfl⟩:=hc
  simp only [bC]
  cases hn:p'.nx
  ·exact fall _ hc' h hro
  ·exact DB.of_steps (.one fstep_loop) (bloop_did fuel (fun h hro=>ih hp h hro) h hro)
 | scope p ih=>
  intro ac hc fuel μ a w x b k h hro
  have hc':=hc
  simp only [comp,Option.bind_eq_bind,Option.bind_eq_some_iff,Option.some.injEq] at hc
  obtain ⟨p',hp,rfl⟩:=hc
  simp only [bC]
  cases hl:labsAC p' with
  | nil=>
   simp only [wrapAC]
   refine DB.of_steps (.one fstep_scope) ?_
   obtain ⟨r,h1,h2⟩:=ih (k := .inScope p::k) (fuel:=fuel) hp h hro
   refine ⟨r,h1,fun out y e => ?_⟩
   have hD:=h2 out y e
   by_cases ho:out = .normal
   ·subst ho
    refine hD.bind fun a' w' μ' g1 g2 g3 => ?_
    exact ⟨a',w',μ',.normal,g1,Fr.refl _ _ _ _,rfl,rfl,.one fstep_inScope⟩
   ·refine hD.pass (fun i=>jumpTo_scope (fun l _ => ?_) k) ho
    cases hf:findLabel p l with
    | none=>rfl
    | some z=>
     have:=(lab_of p hp hf).1
     rw [hl] at this; cases this
  | cons n ns=>
   rw [hl] at hc'
   cases hrr:restAC p' n with
   | none=>
    simp only [wrapAC,hrr]
    exact DB.one (r := .no) fun out y e=>by cases e
   | some r=>
    simp only [wrapAC,hrr] at hc' ⊢
    simp only [bC]
    exact fall _ hc' (fuel:=fuel) h hro
end
end
end Zv
namespace Zv
open Go
mutual
def D.dp:D→Bool
 | .agg cs=>D.dps cs
 | .tup cs=>D.dps cs
 | .sl _ _ cs=>D.dps cs
 | .iptr cs _=>D.dps cs
 | .ms .. => false
 | .gs .. => false
 | .ptr .. => false
 | .it .. => false
 | .iface _ d=>D.dp d
 | .fn _ a b=>D.dps a&&D.dps b
 | _=>true
def D.dps:List D→Bool
 | []=>true
 | d::r=>D.dp d&&D.dps r
end
inductive TY where
 | bool
 | int (k:IntKind)
 | str
 | sl (l:List TY)
def tyFs (P:Program) (g:TypeId→Option (List TY)):List Field→Nat→Option (List TY)
 | [],_=>some []
 | f::r,off=>if f.offset=off then
   (g f.type).bind fun l=>if l.length=P.cellsOf f.type then (tyFs P g r (off+l.length)).map (l ++ ·) else none
  else none
def tyOf (P:Program):Nat→TypeId→Option (List TY)
 | 0,_=>none
 | n+1,t=>match P.underlying t with
  | some .bool=>some [.bool]
  | some (.int k)=>some [.int k]
  | some .string=>some [.str]
  | some (.slice e)=>(tyOf P n e).bind fun l=>if l.length=P.cellsOf e∧0<l.length then some [.sl l] else none
  | some (.struct fs)=>(tyFs P (tyOf P n) fs.toList 0).bind fun l=>if l.length=P.cellsOf t then some l else none
  | some (.array m e)=>(tyOf P n e).bind fun l=>if l.length=P.cellsOf e∧m*l.length=P.cellsOf t then some (List.replicate m l).flatten else none
  | _=>none
mutual
def TY.ok:TY→D→Prop
 | .bool,d=>∃ b,d = .bool b
 | .int k,d=>∃ n,d = .int k n∧k.min≤n∧n≤k.max
 | .str,d=>∃ s,d = .str s∧s.length≤maxLen
 | .sl l,d=>d = .nils∨∃ rows:List (List D),d = .sl false rows.length rows.flatten∧rows.length≤maxLen∧∀ r∈rows,TY.oks l r
def TY.oks:List TY→List D→Prop
 | [],ds=>ds=[]
 | t::ts,ds=>∃ d r,ds=d::r∧TY.ok t d∧TY.oks ts r
end
theorem TY.oks_length:∀ {l:List TY} {ds:List D},TY.oks l ds→ds.length=l.length
 | [],ds,h=>by simp only [TY.oks] at h; simp [h]
 | t::ts,ds,h=>by
  simp only [TY.oks] at h
  obtain ⟨d,r,rfl,_,h⟩:=h
  simp [TY.oks_length h]
theorem TY.oks_append:∀ {l l':List TY} {ds ds':List D},TY.oks l ds→TY.oks l' ds'→TY.oks (l++l') (ds++ds')
 | [],l',ds,ds',h,h'=>by simp only [TY.oks] at h; simpa [h] using h'
 | t::ts,l',ds,ds',h,h'=>by
  simp only [TY.oks] at h
  obtain ⟨d,r,rfl,hd,h⟩:=h
  simp only [List.cons_append,TY.oks]
  exact ⟨d,_,rfl,hd,TY.oks_append h h'⟩
def NoM:Nat→Prop:=fun _=>False
section
variable {H:Type} {enc:TypeId × Value→H} {P:Program} {w:World} {base:Nat} {spare:Nat→Bool} {held:Bool}
theorem VRels.nth {M:Nat→Prop} {μ:Mu}:∀ {ds:List D} {vs:List Value} (i:Nat) (d:D),VRels M w μ ds vs→ds[i]?=some d→∃ v,vs[i]?=some v∧VRel M w μ d v
 | [],vs,i,d,h,hd=>by simp at hd
 | e::ds,vs,i,d,h,hd=>by
  simp only [VRels] at h
  obtain ⟨v,r,rfl,hv,h⟩:=h
  cases i with
  | zero=>simp at hd; subst hd; exact ⟨v,rfl,hv⟩
  | succ i=>simpa using VRels.nth i d h (by simpa using hd)
theorem dps_append:∀ {a b:List D},D.dps a=true→D.dps b=true→D.dps (a++b)=true
 | [],b,_,h=>h
 | d::a,b,h,h'=>by
  simp only [D.dps,List.cons_append,Bool.and_eq_true] at h ⊢
  exact ⟨h.1,dps_append h.2 h'⟩
mutual
def dOf {H:Type}:DataW H→List D
 | .lit (.bool b)=>[.bool b]
 | .lit (.int k n)=>[.int k n]
 | .lit (.string s)=>[.str s]
 | .slice xs _=>[.sl false xs.length (dOfs xs)]
 | .agg xs=>dOfs xs
 | _=>[.nils]
def dOfs {H:Type}:List (DataW H)→List D
 | []=>[]
 | x::r=>dOf x++dOfs r
end
def Reads (w:World) (l:List TY) (cs:List Value) (ds:List D):Prop:=VRels NoM w mu0 ds cs∧D.dps ds=true∧TY.oks l ds
theorem Reads.append {l l':List TY} {cs cs':List Value} {ds ds':List D} (h:Reads w l cs ds) (h':Reads w l' cs' ds'):Reads w (l++l') (cs++cs') (ds++ds'):=
 ⟨VRels.append h.1 h'.1,dps_append h.2.1 h'.2.1,TY.oks_append h.2.2 h'.2.2⟩
theorem Reads.nil:Reads w [] [] []:=⟨by simp [VRels],rfl,by simp [TY.oks]⟩
theorem reads_fs {g:TypeId→Option (List TY)} {cs:List Value}:∀ (fs:List Field) (xs:List (DataW H × List MemPlace)) (off:Nat) (L:List TY),tyFs P g fs off=some L→xs.length=fs.length →
  (∀ (i:Nat) f y,fs[i]?=some f→xs[i]?=some y→∀ l,g f.type=some l→Reads w l ((cs.drop f.offset).take (P.cellsOf f.type)) (dOf y.1))→Reads w L ((cs.drop off).take L.length) (dOfs (xs.map (·.1)))
 | [],xs,off,L,h,hl,hh=>by
  simp only [tyFs,Option.some.injEq] at h
  subst h
  obtain rfl:xs=[]:=List.eq_nil_of_length_eq_zero hl
  simpa [dOfs] using Reads.nil
 | f::r,[],off,L,h,hl,hh=>by simp at hl
 | f::r,x::xs,off,L,h,hlx,hh=>by
  simp only [tyFs] at h
  split at h
  ·rename_i ho
   simp only [Option.bind_eq_some_iff] at h
   obtain ⟨l,hl,h⟩:=h
   split at h
   ·rename_i hc
    simp only [Option.map_eq_some_iff] at h
    obtain ⟨L',h',rfl⟩:=h
    have h1:=hh 0 f x rfl rfl l hl
    have h2:=reads_fs r xs _ L' h' (by simpa using hlx) (fun i f y hf hy=>hh (i+1) f y (by simpa using hf) (by simpa using hy))
    rw [←hc,ho] at h1
    have:=h1.append h2
    rw [List.length_append,List.take_add,List.drop_drop]
    simpa [dOfs] using this
   ·cases h
  ·cases h
theorem reads_rep {l:List TY} {cs:List Value}:∀ (m off:Nat) (xs:List (DataW H × List MemPlace)),xs.length=m→(∀ (i:Nat) y,xs[i]?=some y→Reads w l ((cs.drop (off+i*l.length)).take l.length) (dOf y.1)) →
  Reads w (List.replicate m l).flatten ((cs.drop off).take (m*l.length)) (dOfs (xs.map (·.1)))
 | 0,off,xs,hl,hh=>by
  obtain rfl:xs=[]:=List.eq_nil_of_length_eq_zero hl
  simpa [dOfs] using Reads.nil
 | m+1,off,[],hl,hh=>by simp at hl
 | m+1,off,x::xs,hl,hh=>by
  have h1:=hh 0 x rfl
  have h2:=reads_rep (l:=l) (cs:=cs) m (off+l.length) xs (by simpa using hl) (fun i y hi=>by
   have:=hh (i+1) y (by simpa using hi)
   rwa [Nat.add_mul,Nat.one_mul,Nat.add_comm (i*l.length),←Nat.add_assoc] at this)
  rw [Nat.zero_mul,Nat.add_zero] at h1
  have:=h1.append h2
  rw [List.replicate_succ,List.flatten_cons,Nat.add_mul,Nat.one_mul,Nat.add_comm (m*l.length),List.take_add,List.drop_drop]
  simpa [dOfs] using this
theorem dOfs_rows:∀ (xs:List (DataW H × List MemPlace)),dOfs (xs.map (·.1))=(xs.map fun y=>dOf y.1).flatten
 | []=>rfl
 | x::xs=>by simp [dOfs,dOfs_rows xs]
theorem CRel.append {M:Nat→Prop} {b:Nat}:∀ {ds ds':List D} {o:Nat},CRel M w b o ds→CRel M w b (o+ds.length) ds'→CRel M w b o (ds++ds')
 | [],ds',o,h,h'=>by simpa using h'
 | d::ds,ds',o,h,h'=>by
  simp only [CRel,List.cons_append] at h ⊢
  refine ⟨h.1,CRel.append h.2 ?_⟩
  rwa [List.length_cons,Nat.add_comm ds.length,←Nat.add_assoc] at h'
theorem CRel.rows {M:Nat→Prop} {b c:Nat}:∀ {rows:List (List D)} {o:Nat},(∀ (i:Nat) (r:List D),rows[i]?=some r→r.length=c∧CRel M w b (o+i*c) r)→CRel M w b o rows.flatten
 | [],o,h=>by simp [CRel]
 | r::rows,o,h=>by
  rw [List.flatten_cons]
  obtain ⟨h1,h2⟩:=h 0 r rfl
  rw [Nat.zero_mul,Nat.add_zero] at h2
  refine CRel.append h2 (CRel.rows (c:=c) fun i r' hr => ?_)
  obtain ⟨h3,h4⟩:=h (i+1) r' (by simpa using hr)
  rw [h1]
  rw [Nat.add_mul,Nat.one_mul,Nat.add_comm (i*c),←Nat.add_assoc] at h4
  exact ⟨h3,h4⟩
theorem dps_flatten:∀ {rows:List (List D)},(∀ r∈rows,D.dps r=true)→D.dps rows.flatten=true
 | [],_=>rfl
 | r::rows,h=>by
  rw [List.flatten_cons]
  exact dps_append (h r (by simp)) (dps_flatten fun r hr=>h r (by simp [hr]))
theorem cell_spot {a:Addr} {v:Value} (h:w.cell? a=some v):a.spot=none∧a.block<w.heap.size:=by
 unfold World.cell? at h
 split at h
 ·rename_i c _ _ he
  by_cases hs:a.spot.isSome=true
  ·simp [hs] at h
  ·exact ⟨by simpa using hs,(Array.getElem?_eq_some_iff.1 he).1⟩
 ·cases h
theorem cells_crel {b o n:Nat} {vs:List Value} {ds:List D} (h:w.cells? base ⟨b,o,none⟩ n=some vs) (hv:VRels NoM w mu0 ds vs):CRel NoM w b o ds:=by
 unfold World.cells? at h
 split at h
 ·refine CRel.mk fun i d hd => ?_
  obtain ⟨v,h1,h2⟩:=VRels.nth i d hv hd
  have hn:i<n:=by
   have:=mapM_some_length h
   have:=(List.getElem?_eq_some_iff.1 h1).1
   simp_all
  have h3:=mapM_some_get h i i (by simp [hn])
  rw [h1,Addr.add_lit] at h3
  exact ⟨v,h3,h2⟩
 ·cases h
theorem cells_spot {a:Addr} {n:Nat} {vs:List Value} (h:w.cells? base a n=some vs) (hn:0<n):a.spot=none∧a.block<w.heap.size:=by
 unfold World.cells? at h
 split at h
 ·have h3:=mapM_some_get h 0 0 (by simp [hn])
  obtain ⟨v,hv⟩:∃ v,vs[0]?=some v:=by
   have:=mapM_some_length h
   exact ⟨vs[0]'(by simp_all),by simp⟩
  rw [hv] at h3
  exact cell_spot h3
 ·cases h
theorem read_in:∀ (m fuel:Nat) (t:TypeId) (l:List TY) (cs:List Value) (x:DataW H × List MemPlace),DataW.trod enc P w base spare held fuel t cs=some x→tyOf P m t=some l→Reads w l cs (dOf x.1)
 | 0,fuel,t,l,cs,x,h,ht=>by simp [tyOf] at ht
 | m+1,fuel,t,l,cs,x,h,ht=>by
  unfold tyOf at ht
  split at ht
  ·rename_i hu
   cases ht
   obtain ⟨b,rfl,rfl⟩:=DataW.trod_bool hu h
   exact ⟨by simp [dOf,VRels,VRel],rfl,by simp [dOf,TY.oks,TY.ok]⟩
  ·rename_i k hu
   cases ht
   obtain ⟨n,rfl,rfl,hw⟩:=DataW.trod_int hu h
   simp only [Lit.wf,Bool.and_eq_true,decide_eq_true_eq] at hw
   exact ⟨by simp [dOf,VRels,VRel],rfl,by simp [dOf,TY.oks,TY.ok,hw]⟩
  ·rename_i hu
   cases ht
   obtain ⟨s,rfl,rfl,hs⟩:=DataW.trod_string hu h
   exact ⟨by simp [dOf,VRels,VRel],rfl,by simpa [dOf,TY.oks,TY.ok] using hs⟩
  ·rename_i e hu
   simp only [Option.bind_eq_some_iff] at ht
   obtain ⟨l',hl',ht⟩:=ht
   split at ht
   ·rename_i hc
    cases ht
    rcases DataW.trod_slice hu h with ⟨rfl,rfl⟩|⟨a,len,cap,elems,rest,n,rfl,rfl,rfl,hb,hlc,hcm,hel,hi,_⟩
    ·exact ⟨by simp [dOf,VRels,VRel],rfl,by simp [dOf,TY.oks,TY.ok]⟩
    ·rcases Nat.eq_zero_or_pos len with e0|e0
     ·subst e0
      obtain rfl:elems=[]:=List.eq_nil_of_length_eq_zero hel
      refine ⟨?_,rfl,?_⟩
      ·simp only [dOf,List.map_nil,dOfs,VRels,VRel]
       exact ⟨_,_,rfl,⟨some a,cap,rfl,hlc,by simp,.inl rfl⟩,rfl⟩
      ·simp only [dOf,TY.oks,TY.ok]
       exact ⟨_,_,rfl,.inr ⟨[],rfl,by simp,by simp⟩,rfl⟩
     ·have hsp:a.spot=none∧a.block<w.heap.size:=by
       have h1:=hi 0 e0
       obtain ⟨y,hy⟩:∃ y,elems[0]?=some y:=⟨elems[0]'(by omega),by simp⟩
       rw [hy,Option.bind_eq_some_iff] at h1
       obtain ⟨vs,hv,h1⟩:=h1
       rw [Nat.zero_mul] at hv
       exact cells_spot (a:=a.add 0) hv (by omega)
      obtain ⟨ab,ao,asp⟩:=a
      simp only at hsp
      obtain ⟨rfl,hab⟩:=hsp
      have hr2:∀ (i:Nat) r,(elems.map fun y=>dOf y.1)[i]?=some r→TY.oks l' r∧D.dps r=true∧CRel NoM w ab (ao+i*P.cellsOf e) r:=fun i r hr=>by
       rw [List.getElem?_map,Option.map_eq_some_iff] at hr
       obtain ⟨y,hy,rfl⟩:=hr
       have h1:=hi i (by rw [←hel]; exact (List.getElem?_eq_some_iff.1 hy).1)
       rw [hy,Option.bind_eq_some_iff] at h1
       obtain ⟨vs,hv,h1⟩:=h1
       obtain ⟨hd1,hd2,hd3⟩:=read_in m n e l' vs y h1 hl'
       rw [Addr.add_lit] at hv
       exact ⟨hd3,hd2,cells_crel hv hd1⟩
      simp only [dOf,dOfs_rows,List.length_map]
      refine ⟨?_,?_,?_⟩
      ·simp only [VRels,VRel]
       refine ⟨_,_,rfl,⟨_,cap,by rw [hel],by omega,by simp,.inr ⟨ab,ao,rfl,id,hab,CRel.rows (c:=P.cellsOf e) fun i r hir => ?_⟩⟩,rfl⟩
       obtain ⟨h1,_,h5⟩:=hr2 i r hir
       exact ⟨by rw [TY.oks_length h1]; exact hc.1,h5⟩
      ·simp only [D.dps,D.dp,Bool.and_true]
       refine dps_flatten fun r hr => ?_
       obtain ⟨i,hi⟩:=List.mem_iff_getElem?.1 hr
       exact (hr2 i r hi).2.1
      ·simp only [TY.oks,TY.ok]
       refine ⟨_,_,rfl,.inr ⟨elems.map fun y=>dOf y.1,by simp,by simp; omega,fun r hr => ?_⟩,rfl⟩
       obtain ⟨i,hi⟩:=List.mem_iff_getElem?.1 hr
       exact (hr2 i r hi).1
   ·cases ht
  ·rename_i fs hu
   simp only [Option.bind_eq_some_iff] at ht
   obtain ⟨L,hL,ht⟩:=ht
   split at ht
   ·rename_i hc
    cases ht
    obtain ⟨xs,n,rfl,rfl,hlen,hxl,hf⟩:=DataW.trod_struct hu h
    have:=reads_fs (w:=w) (P:=P) (g:=tyOf P m) (cs:=cs) fs.toList xs 0 l hL (by simpa using hxl) (fun i f y hfm hy l' hl'=>by
     have h1:=hf i f (by simpa using hfm)
     rw [hy] at h1
     exact read_in m n f.type l' _ y h1 hl')
    rw [List.drop_zero,List.take_of_length_le (by omega)] at this
    simpa [dOf] using this
   ·cases ht
  ·rename_i k e hu
   simp only [Option.bind_eq_some_iff] at ht
   obtain ⟨l',hl',ht⟩:=ht
   split at ht
   ·rename_i hc
    cases ht
    obtain ⟨xs,n,rfl,rfl,hlen,hxl,hf⟩:=DataW.trod_array hu h
    have:=reads_rep (w:=w) (l:=l') (cs:=cs) k 0 xs hxl (fun i y hy=>by
     have h1:=hf i (by have:=(List.getElem?_eq_some_iff.1 hy).1; omega)
     rw [hy] at h1
     rw [Nat.zero_add,hc.1]
     exact read_in m n e l' _ y h1 hl')
    rw [List.drop_zero,List.take_of_length_le (by omega)] at this
    simpa [dOf] using this
   ·cases ht
  ·cases ht
end
end Zv
namespace Zv
open Go Go.ChangeShapes Go.WideShapes Go.ChangeAt Go.RowKit
def argsOf (P:Program) (n:Nat):List TypeId→Option (List (Bool × List TY))
 | []=>some []
 | t::ts=>(tyOf P n t).bind fun l=>(argsOf P n ts).map fun r=>((match P.underlying t with|some (.struct _)|some (.array _ _)=>true|_=>false),l)::r
def AOk (a:Bool × List TY) (d:D):Prop:=match a.1 with
 | true=>∃ ds,d = .agg ds∧TY.oks a.2 ds
 | false=>TY.oks a.2 [d]
def AOks:List (Bool × List TY)→List D→Prop
 | [],ds=>ds=[]
 | a::r,ds=>∃ d ds',ds=d::ds'∧AOk a d∧AOks r ds'
section
variable {H:Type} {enc:TypeId × Value→H} {P:Program} {w w':World} {base:Nat} {spare:Nat→Bool} {held:Bool}
theorem not_agg {r:Reach} {b0:Nat} {t:TypeId} {m:Nat} {l:List TY} {v:Value} (ht:tyOf P m t=some l)
  (hn:(match P.underlying t with|some (.struct _)|some (.array _ _)=>true|_=>false)=false) (hv:Value.okWide P w r b0 t v):v.cells = #[v]:=by
 cases v <;> try rfl
 exfalso
 cases m with
 | zero=>simp [tyOf] at ht
 | succ m=>
  unfold tyOf at ht
  unfold Value.okWide Cell.okWide Cell.ok at hv
  split at ht <;> simp_all
theorem args_in {r:Reach} {b0:Nat} {n:Nat}:∀ {ts:List TypeId} {L:List (Bool × List TY)} {vs:List Value} {ds:List (DataW H)} {ps:List MemPlace},argsOf P n ts=some L →
  DataW.TrodAll enc P w base spare held ts vs ds ps→(∀ (j:Nat) t v,ts[j]?=some t→vs[j]?=some v→Value.okWide P w r b0 t v) →
  ∃ as,VRels NoM w mu0 as vs∧D.dps as=true∧AOks L as
 | [],L,vs,ds,ps,ht,h,hv=>by
  obtain ⟨rfl,_,_⟩:=trodAll_nil h
  simp only [argsOf,Option.some.injEq] at ht
  subst ht
  exact ⟨[],by simp [VRels],rfl,by simp [AOks]⟩
 | t::ts,L,vs,ds,ps,ht,h,hv=>by
  obtain ⟨v,vs',d,ds',p,q,rfl,rfl,rfl,⟨fuel,h1⟩,h2⟩:=trodAll_cons h
  simp only [argsOf,Option.bind_eq_some_iff,Option.map_eq_some_iff] at ht
  obtain ⟨l,hl,L',hL,rfl⟩:=ht
  obtain ⟨as,ha1,ha2,ha3⟩:=args_in hL h2 (fun j t v h3 h4=>hv (j+1) t v (by simpa using h3) (by simpa using h4))
  obtain ⟨cs,hc1,hc2,hc3⟩:∃ cs,Reads w l v.cells.toList cs:=⟨_,read_in n fuel t l _ _ h1 hl⟩
  have hv0:=hv 0 t v rfl rfl
  cases hb:(match P.underlying t with|some (.struct _)|some (.array _ _)=>true|_=>false) with
  | false=>
   rw [not_agg hl hb hv0] at hc1
   cases cs with
   | nil=>simp [VRels] at hc1
   | cons c cs=>
    simp only [VRels] at hc1
    obtain ⟨v',r',he,hc,hr⟩:=hc1
    cases he
    cases cs with
    | cons _ _=>simp [VRels] at hr
    | nil=>
     simp only [D.dps,Bool.and_true] at hc2
     refine ⟨c::as,by simp only [VRels]; exact ⟨_,_,rfl,hc,ha1⟩,by simp [D.dps,hc2,ha2],?_⟩
     simp only [AOks]
     exact ⟨_,_,rfl,by simpa [AOk] using hc3,ha3⟩
  | true=>
   have hag:∃ xs,v = .agg xs:=by
    unfold Value.okWide at hv0
    split at hb
    ·rename_i e; rw [e] at hv0; obtain ⟨xs,e',_⟩:=hv0; exact ⟨xs,e'⟩
    ·rename_i e; rw [e] at hv0; obtain ⟨xs,e',_⟩:=hv0; exact ⟨xs,e'⟩
    ·cases hb
   obtain ⟨xs,rfl⟩:=hag
   simp only [Value.cells] at hc1
   refine ⟨.agg cs::as,?_,by simp [D.dps,D.dp,hc2,ha2],?_⟩
   ·simp only [VRels,VRel]
    exact ⟨_,_,rfl,⟨_,rfl,hc1⟩,ha1⟩
   ·simp only [AOks]
    exact ⟨_,_,rfl,by simpa [AOk] using hc3,ha3⟩
theorem glob_of {m:Nat} {n:String} {d:DataW Unit} {g:Nat} {t:TypeId} {l:List TY} (hg:P.globalNamed n=some g) (ht:(P.globals[g]?).map (·.type)=some t) (hl:tyOf P m t=some l) :
  ∀ {laid:List (String × DataW Unit)} {ps:List MemPlace},DataW.LaidVars P w laid ps→(n,d)∈laid→g<w.heap.size∧CRel NoM w g 0 (dOf d)
 | [],ps,h,hm=>by cases hm
 | (n',d')::r,ps,h,hm=>by
  obtain ⟨g',t',cs,fuel,p,q,h1,h2,h3,h4,h5,_⟩:=h
  rcases List.mem_cons.1 hm with e|hm
  ·cases e
   rw [hg] at h1; cases h1
   rw [ht] at h2; cases h2
   have hr:=(read_in m fuel t l _ _ h4 hl).1
   simp only [World.var?,hg,Option.bind_some] at h3
   split at h3
   ·rename_i e
    cases h3
    refine ⟨(Array.getElem?_eq_some_iff.1 e).1,CRel.mk fun i d hd => ?_⟩
    obtain ⟨v,hv,hvr⟩:=VRels.nth i d hr hd
    refine ⟨v,?_,hvr⟩
    simp only [World.cell?,e]
    simpa using hv
   ·cases h3
  ·exact glob_of hg ht hl h5 hm
theorem trodAll_carry:∀ {ts:List TypeId} {vs:List Value} {ds:List (DataW H)} {ps:List MemPlace},DataW.TrodAll enc P w base spare held ts vs ds ps →
  (∀ p∈ps,w.sameAt w' p)→DataW.TrodAll enc P w' base spare held ts vs ds ps
 | [],vs,ds,ps,h,hs=>by
  obtain ⟨rfl,rfl,rfl⟩:=trodAll_nil h
  exact rfl
 | t::ts,vs,ds,ps,h,hs=>by
  obtain ⟨v,vs',d,ds',p,q,rfl,rfl,rfl,⟨fuel,h1⟩,h2⟩:=trodAll_cons h
  exact trodAll_cons_mk ⟨fuel,DataW.trod_carry fuel _ _ _ h1 fun p hp=>hs p (by simp at hp; simp [hp])⟩ (trodAll_carry h2 fun p hp=>hs p (by simp [hp]))
theorem same_of {p:MemPlace} (hb:w'.heap[p.block]?=w.heap[p.block]?):w.sameAt w' p:=by
 cases p with
 | cell b o=>simp only [MemPlace.block] at hb; simp only [World.sameAt,World.cell?,hb]
 | map b=>exact hb
theorem row_true {E:Env} {f:FuncId} {fn:Func} {s:ChangeSpec} {W:World} {args:Array Value} {ds gs:List (DataW H)} {before:List MemPlace} {as:List D} {t:TypeId} {apart fresh again:Bool} {held':Bool}
  (K:Kids E.P (· < E.P.types.size)) (hz:∀ t e,t<E.P.types.size→E.P.underlying t=some (.slice e)→0<E.P.cellsOf e) (hT:∀ t∈fn.params.toList,t<E.P.types.size)
  (hvars:s.vars=[]) (hfn:∀ (d0:List (DataW H)),d0.length=fn.params.size→s.fn H d0={ results:=[.lit (.bool true)],args:=d0 })
  (hres:fn.resultTypes = #[t]) (hu:E.P.underlying t=some .bool)
  (hW:DataW.Whole enc E.P fn.params.toList s.vars apart W args.toList ds gs before)
  (hp:PureC E f as (.bool true)) (hG:GRel E NoM W) (hv:VRels NoM W mu0 as args.toList) :
  Calls E.P f args W fun e W'=>∃ v,e = .returned v∧s.post enc E.P fn apart fresh held' again W args v W':=by
 have hp':=hp NoM W args.toList (fun b hb=>hb.elim) hG hv
 refine hp'.mono ?_
 rintro e W' ⟨v,rfl,hr,hsz,henv,hold⟩
 simp only [VRel] at hr
 subst hr
 have hlt:=hW.lt
 have hW0:=hW
 obtain ⟨p,q,hA,hV,hbe,hfz,hnd⟩:=hW
 rw [hvars] at hV
 obtain ⟨rfl,rfl⟩:=trodVars_none hV
 rw [List.append_nil] at hbe
 subst hbe
 have hlen:=(trodAll_length hA).2
 simp only [Array.length_toList] at hlen
 have hspec:=hfn (ds++[]) (by simpa using hlen)
 have hsame:∀ p∈before,W.sameAt W' p:=fun p hp=>same_of (hold _ (hlt p hp))
 have hA':=trodAll_carry hA hsame
 have hAs:∀ sp:Nat→Bool,(∀ p∈before,sp p.block=true)→DataW.TrodAll enc E.P W' 0 sp true fn.params.toList args.toList ds before:=
  fun sp hsp=>DataW.TrodAll.respare K hz hT hA' hsp
 have hbool:∀ (b:Nat) (sp:Nat→Bool) (hd:Bool),DataW.TrodAll enc E.P W' b sp hd fn.resultTypes.toList ((Value.bool true).resultList fn.resultTypes.size) [.lit (.bool true)] []:=fun b sp hd=>by
  rw [hres]
  exact trodAll_mk1 (shut_bool hu true)
 refine ⟨_,rfl,ds,[],before,[],before,[],hW0,?_,?_,?_,?_,?_⟩
 ·rw [hspec]; exact hbool _ _ _
 ·rw [hspec,List.append_nil]; exact hAs _ fun p hp=>by simpa using hlt p hp
 ·rw [hspec,hvars]; exact rfl
 ·refine ⟨henv.1,henv.2,fun i hi => ?_⟩
  rw [hold i hi]
  rcases hx:W.heap[i]? with _|o
  ·rfl
  ·cases o <;> simp
 ·intro _
  refine ⟨ok_one hres rfl (okWide_bool_mk hu true),[.lit (.bool true)]++ds,[],[]++before,⟨[]++before,[],trodAll_append (hAs _ fun _ _=>rfl) (hbool _ _ _),?_,by simp,?_,?_⟩,?_⟩
  ·rw [hvars]; exact rfl
  ·intro b off hb
   have hb':MemPlace.cell b off∈before:=by simpa using hb
   have:=hfz b off hb'
   simp only [World.frozen?,hold b (hlt _ hb')] at this ⊢
   exact this
  ·intro ha; simpa using hnd ha
  ·intro p hp _; simpa using hp
end
end Zv
namespace Zv
open Go
noncomputable section
def Ord (cx:Cx) (k m f:Nat) (args:List D) (p:D × Bool):Prop:=
 ∃ A,cx.T f=some A∧Nat.beq args.length A.np=true∧∀ r∈bC cx (zN cx k m).fn k A.body (start args st0 0),pout (zbody (zN cx k m).df A r)=some p
open Classical in
def bev (cx:Cx) (k m f:Nat) (args:List D):Option (D × Bool):=if h:∃ p,Ord cx k m f args p then some h.choose else none
theorem pout_rel {E:Env} {M:Nat→Prop} {w w':World} {μ':Mu} {s':St} {c':Nat} {r:D} {v:Value} {p:D × Bool} (hM:∀ b,M b→b<w.heap.size) (hS':SRel E M w μ' w' s' c') (hvr:VRel (Mm M μ') w' μ' r v)
  (h:(match frz true 20 s' r with|some d=>some (d,true)|none=>(frz false 20 s' r).map fun d=>(d,false))=some p) :
  VRel M w' mu0 p.1 v∧(p.2=true→VRel (fun b=>b<w.heap.size) w' mu0 p.1 v):=by
 have hnm:∀ nm l b,μ' nm=some l→l.blk=some b→¬ M b:=fun nm l b h1 h2 hm=>by have:=hM b hm; have:=(hS'.own nm l b h1 h2).1; omega
 have hnw:∀ nm l b,μ' nm=some l→l.blk=some b→¬ (b<w.heap.size):=fun nm l b h1 h2 hm=>by have:=(hS'.own nm l b h1 h2).1; omega
 split at h
 ·rename_i d hd
  cases h
  exact ⟨frz_rel hS' hnm (fun e=>by cases e) 20 r d v hd hvr,fun _=>frz_rel hS' hnw (fun e=>by cases e) 20 r d v hd hvr⟩
 ·rename_i hd
  simp only [Option.map_eq_some_iff] at h
  obtain ⟨d,hd,rfl⟩:=h
  exact ⟨frz_rel hS' hnm (fun _ b _ hb => .inl hb) 20 r d v hd hvr,fun e=>by cases e⟩
theorem bev_sound {E:Env} {cx:Cx} (H:POK E cx) {k m f:Nat} {args:List D} {p:D × Bool} (h:bev cx k m f args=some p):PureB E f args p.1 p.2:=by
 unfold bev at h
 by_cases hex:∃ p,Ord cx k m f args p
 case neg=>rw [dif_neg hex] at h; cases h
 rw [dif_pos hex] at h
 cases h
 obtain ⟨A,hA,hlen,hall⟩:=hex.choose_spec
 generalize hex.choose=p at hall ⊢
 intro M w vals hM hG hv
 obtain ⟨hcal,fn,hfn,hcomp⟩:=H.body.body f A hA
 obtain ⟨cd,hbody,hc,hres⟩:=compF_spec hcomp
 have C:Ctx E cx (zN cx k m).fn:=⟨(zn_ok H k m).1,H.meth,H.glob,H.mixed⟩
 refine ⟨hcal,?_⟩
 have hS:SRel E M w mu0 w st0 0:=
  {size:=Nat.le_refl _,old:=fun _ _=>rfl,m0lt:=hM,defers:=by simp only [DfRel],n:=Nat.zero_le _,tm:=fun n=>by rw [tget_nil]; simp only [VRel]
   st:=fun nm blk l hl=>by simp [mu0] at hl
   lt:=fun nm l hl=>by simp [mu0] at hl
   own:=fun nm l b hl=>by simp [mu0] at hl
   inj:=fun n m l l' b _ _ hl=>by simp [mu0] at hl
   glob:=hG,env:=⟨rfl,rfl⟩ }
 have hx:Ext M w (Mm M mu0) w:=⟨Nat.le_refl _,fun _ _ _=>rfl,fun b hb hm=>by
  rcases hm with hm|⟨nm,l,e,_⟩
  ·exact hm
  ·simp [mu0] at e⟩
 intro cs
 have hst:=start_rel (N:=fn.ntmps) hS (VRels.mono hx _ _ (muLe.refl _) hv)
 rw [enter_fat hfn hbody]
 obtain ⟨r,hr,hD⟩:=bcode_did (b:={ (default:Frame) with fn:=f,kind := .normal }) (cs:=cs) (k:=[]) C cd hc (fuel:=k) hst rfl
 have hp:=hall r hr
 unfold pout at hp
 cases r with
 | no=>simp [zbody] at hp
 | ok out x=>
  split at hp
  ·rename_i q s' c' hz
   obtain ⟨e,w',fr,⟨μ',hS',hF,v,rfl,hvr⟩,h2,h3,h4⟩:=body_one (zn_ok H k m).2 hfn hres rfl (hD out x rfl) hz
   obtain ⟨g1,g2⟩:=pout_rel hM hS' hvr hp
   exact ⟨_,w',fr,⟨v,rfl,g1,g2,hF.size,hS'.env,fun b hb=>hS'.old b hb⟩,h2,h3,h4⟩
  ·cases hp
/-! Levels. -/
def wev (ms:Nat→Bool) (k m:Nat) (cx:Cx) (f:Nat) (args:List D):Option (D × Bool):=bif ms f then bev cx k m f args else pev cx k m f args
def lw (B:Cx) (ps ms:Nat→Bool) (k m:Nat):Nat→Cx
 | 0=>B
 | n+1=>{ B with X:=fun f=>bif ps f then some (pcall (wev ms k m (lw B ps ms k m n) f)) else B.X f }
theorem wev_sound {E:Env} {cx:Cx} (H:POK E cx) {ms:Nat→Bool} {k m f:Nat} {args:List D} {p:D × Bool} (h:wev ms k m cx f args=some p):PureB E f args p.1 p.2:=by
 unfold wev at h
 cases hm:ms f <;> rw [hm] at h
 ·exact pev_sound H h
 ·exact bev_sound H h
theorem lw_ok {E:Env} {B:Cx} (H:POK E B) (ps ms:Nat→Bool) (k m:Nat):∀ n,POK E (lw B ps ms k m n)
 | 0=>H
 | n+1=>{H with
   body:=⟨H.body.body⟩
   known:=H.known
   spec:=fun f g h=>by
    have h':(bif ps f then some (pcall (wev ms k m (lw B ps ms k m n) f)) else B.X f)=some g:=h
    cases hp:ps f <;> rw [hp] at h'
    ·intro _ _ _ _ _ _ _ _ _ _ _ h1 h2 h3
     exact H.spec f g h' h1 h2 h3
    ·cases h'
     intro _ _ _ _ _ _ _ _ _ _ _ h1 h2 h3
     exact sp_pcall (fun fa p hp=>wev_sound (lw_ok H ps ms k m n) hp) h1 h2 h3 }
theorem pure_of_wev {E:Env} {cx:Cx} (H:POK E cx) {ms:Nat→Bool} {k m f:Nat} {args:List D} {p:D × Bool} (h:wev ms k m cx f args=some p):PureC E f args p.1:=fun M w vals hM hG hv=>
 (wev_sound H h M w vals hM hG hv).2.mono fun e w' ⟨v,h1,h2,_,h3,h4,h5⟩=>⟨v,h1,h2,h3,h4,h5⟩
section
variable {B:Cx} {ps ms:Nat→Bool} {k m:Nat}
theorem wcall_pure {f:Nat} (hp:ps f=true) (n j:Nat) (args:List D) (s:St) (c:Nat):(zN (lw B ps ms k m (n+1)) k (j+1)).fn (.fn f) args s c=pcall (wev ms k m (lw B ps ms k m n) f) args s c:=by
 show zspec (lw B ps ms k m (n+1)) f _ args s c=_
 unfold zspec
 have h:(lw B ps ms k m (n+1)).X f=some (pcall (wev ms k m (lw B ps ms k m n) f)):=by
  show (bif ps f then some (pcall (wev ms k m (lw B ps ms k m n) f)) else B.X f)=_
  rw [hp]; rfl
 rw [h]
theorem lw_base:∀ n,(lw B ps ms k m n).T=B.T∧(lw B ps ms k m n).G=B.G∧(lw B ps ms k m n).M=B.M∧(lw B ps ms k m n).K=B.K
 | 0=>⟨rfl,rfl,rfl,rfl⟩
 | _+1=>⟨rfl,rfl,rfl,rfl⟩
theorem lw_X {f:Nat} (hp:ps f=false) (n:Nat):(lw B ps ms k m n).X f=B.X f:=by
 cases n with
 | zero=>rfl
 | succ n=>
  show (bif ps f then some (pcall (wev ms k m (lw B ps ms k m n) f)) else B.X f)=_
  rw [hp]; rfl
theorem wcall_spec {f:Nat} {g:List D→St→Nat→FR} (hp:ps f=false) (hX:B.X f=some g) (n j:Nat) (args:List D) (s:St) (c:Nat):(zN (lw B ps ms k m n) k (j+1)).fn (.fn f) args s c=g args s c:=by
 show zspec (lw B ps ms k m n) f _ args s c=_
 unfold zspec
 rw [lw_X hp n,hX]
theorem wcall_in {f:Nat} {A:AF} (hp:ps f=false) (hX:B.X f=none) (hK:B.K f=[]) (hT:B.T f=some A) (n j:Nat) (args:List D) (s:St) (c:Nat) (hl:Nat.beq args.length A.np=true) :
  (zN (lw B ps ms k m n) k (j+1)).fn (.fn f) args s c=zbody (zN (lw B ps ms k m n) k j).df A (zC A.body (lw B ps ms k m n) (zN (lw B ps ms k m n) k j).fn k (start args s c)):=by
 show zspec (lw B ps ms k m n) f (zmemo (lw B ps ms k m n) f (zcall (lw B ps ms k m n) k (zN (lw B ps ms k m n) k j) f)) args s c=_
 unfold zspec
 rw [lw_X hp n,hX]
 show zmemo (lw B ps ms k m n) f (zcall (lw B ps ms k m n) k (zN (lw B ps ms k m n) k j) f) args s c=_
 unfold zmemo
 rw [(lw_base n).2.2.2,hK]
 show zcall (lw B ps ms k m n) k (zN (lw B ps ms k m n) k j) f args s c=_
 unfold zcall
 rw [(lw_base n).1,hT]
 simp only [hl,cond_true]
theorem wcall_known {f:Nat} {l:List (List D × D)} {p:List D × D} (hp:ps f=false) (hX:B.X f=none) (hK:B.K f=p::l) {args fa:List D} {d:D} {s:St} (hf:args.mapM (fr 20 s)=some fa) (hl:zlook fa (p::l)=some d) (n j:Nat) (c:Nat) :
  (zN (lw B ps ms k m n) k (j+1)).fn (.fn f) args s c = .ok (.ret d) s c:=by
 show zspec (lw B ps ms k m n) f (zmemo (lw B ps ms k m n) f (zcall (lw B ps ms k m n) k (zN (lw B ps ms k m n) k j) f)) args s c=_
 unfold zspec
 rw [lw_X hp n,hX]
 show zmemo (lw B ps ms k m n) f (zcall (lw B ps ms k m n) k (zN (lw B ps ms k m n) k j) f) args s c=_
 unfold zmemo
 rw [(lw_base n).2.2.2,hK]
 simp only [hf,hl]
theorem wev_run {f:Nat} {A:AF} (hT:B.T f=some A) (hm:ms f=false) (n:Nat) (args:List D) (hl:Nat.beq args.length A.np=true) :
  wev ms k m (lw B ps ms k m n) f args=pout (zbody (zN (lw B ps ms k m n) k m).df A (zC A.body (lw B ps ms k m n) (zN (lw B ps ms k m n) k m).fn k (start args st0 0))):=by
 unfold wev
 rw [hm,cond_false]
 unfold pev zcall
 rw [(lw_base n).1,hT]
 simp only [hl,cond_true]
 rfl
end
end
end Zv
namespace Zv
open Go
noncomputable def spAs (T TP:Nat) (args:List D) (s:St) (c:Nat):FR:=
 match args with
 | [.nilif,_] => .ok (.ret (.bool false)) s c
 | [.iface T1 (.agg [.int k1 n1,.int k2 n2]),.iface TP1 (.ptr nm off)]=>
  bif Nat.beq T1 T&&Nat.beq TP1 TP then
   match sget s nm with
   | some blk=>match stB blk off [.int k1 n1,.int k2 n2] with
    | some b => .ok (.ret (.bool true)) (sset s nm b) c
    | none => .no
   | none => .no
  else .no
 | _ => .no
def asWorld (w:World) (t:Addr) (us:Array Value) (T TP VT nG:Nat) (fl:Int):World:=
 (((w.alloc (.cells #[.pointer (some t)] TP)).alloc (.cells #[.pointer (some ⟨nG,TP,none⟩),.pointer (some ⟨w.heap.size,0,none⟩),.int .u64 fl] VT)).alloc
  (.cells #[.pointer (some ⟨nG,TP,none⟩),.pointer (some ⟨w.heap.size,0,none⟩),.int .u64 fl] VT)).alloc (.cells us T)
theorem asWorld_size (w:World) (t:Addr) (us:Array Value) (T TP VT nG:Nat) (fl:Int):(asWorld w t us T TP VT nG fl).heap.size=w.heap.size+1+1+1+1:=by
 show ((((w.heap.push _).push _).push _).push _).size=_
 simp only [Array.size_push]
theorem asWorld_same (w:World) (t:Addr) (us:Array Value) (T TP VT nG:Nat) (fl:Int) (b:Nat) (hb:b<w.heap.size):(asWorld w t us T TP VT nG fl).heap[b]?=w.heap[b]?:=by
 show ((((w.heap.push _).push _).push _).push _)[b]?=_
 rw [Array.getElem?_push_lt (by simp; omega),Array.getElem_push_lt (by simp; omega),Array.getElem_push_lt (by simp; omega),Array.getElem_push_lt hb,Array.getElem?_eq_getElem hb]
theorem as_spec {E:Env} {fA T TP R eT nG g VT:Nat} {fl:Int} (hcb:callable E.P fA=true) (hG:(g,[D.iface R (.agg [.adr nG eT])])∈E.G)
  (hnil:∀ (t:Value) (w:World),Calls E.P fA #[.nilIface,t] w fun e w'=>e = .returned (.bool false)∧w'=w)
  (hhit:∀ (k1 k2:IntKind) (n1 n2:Int) (t:Addr) (w w':World),t.block<w.heap.size→w.cell? ⟨g,0,none⟩=some (.iface R (.agg #[.pointer (some ⟨nG,eT,none⟩)])) →
   (storeCells t [.int k1 n1,.int k2 n2]).run E.P (asWorld w t #[.int k1 n1,.int k2 n2] T TP VT nG fl) = .ok () w' →
   Calls E.P fA #[.iface T (.agg #[.int k1 n1,.int k2 n2]),.iface TP (.pointer (some t))] w fun e w''=>e = .returned (.bool true)∧w''=w'):SpOK E fA (spAs T TP):=by
 intro M0 w0 μ w s c args vals o s' c' h hv hs
 refine ⟨hcb,?_⟩
 unfold spAs at hs
 split at hs
 ·cases hs
  simp only [VRels,VRel] at hv
  obtain ⟨v,r,rfl,rfl,u,r',rfl,hu,rfl⟩:=hv
  refine (hnil u w).mono ?_
  rintro e w' ⟨rfl,rfl⟩
  obtain ⟨hR,hF⟩:=Rel.more h (Nat.le_refl _) ⟨rfl,rfl⟩ (fun _ _=>rfl)
  exact ⟨μ,hR,hF,_,rfl,by simp only [VRel]⟩
 ·rename_i T1 k1 n1 k2 n2 TP1 nm off
  cases hc:(Nat.beq T1 T&&Nat.beq TP1 TP) <;> rw [hc] at hs
  ·cases hs
  simp only [Bool.and_eq_true] at hc
  have c1:=Nat.eq_of_beq_eq_true hc.1
  have c2:=Nat.eq_of_beq_eq_true hc.2
  subst c1 c2
  simp only [cond_true] at hs
  split at hs
  ·rename_i blk hg
   split at hs
   ·rename_i b' hst
    cases hs
    simp only [VRels,VRel] at hv
    obtain ⟨v,r,rfl,⟨x,rfl,hx⟩,u,r',rfl,⟨y,rfl,l,b,hl,hlb,rfl⟩,rfl⟩:=hv
    have hx':x = .agg #[.int k1 n1,.int k2 n2]:=by
     obtain ⟨vs,rfl,q1,rr,e1,rfl,q2,rr',rfl,rfl,rfl⟩:=hx
     congr 1
     exact Array.ext' (by simpa using e1)
    subst hx'
    have hbw:b<w.heap.size:=(h.own nm l b hl hlb).2
    obtain ⟨hR4,hF4⟩:=Rel.more h (w':=asWorld w ⟨b,off,none⟩ #[.int k1 n1,.int k2 n2] T1 TP1 VT nG fl) (by rw [asWorld_size]; omega) ⟨rfl,rfl⟩ (fun q hq=>asWorld_same w _ _ _ _ _ _ _ q hq)
    obtain ⟨w',hrun,hx,hR,hF⟩:=write_rel hR4 hg hst hl hlb (us:=[.int k1 n1,.int k2 n2]) (by simp only [VRels,VRel]; exact ⟨_,_,rfl,rfl,_,_,rfl,rfl,rfl⟩)
    have hgl:=(h.globals0 _ hG).2.2
    simp only [CRel,VRel,VRels] at hgl
    obtain ⟨⟨gv,hg1,gx,rfl,vs,rfl,q1,rr,e1,rfl,rfl⟩,_⟩:=hgl
    have hvs:vs = #[.pointer (some ⟨nG,eT,none⟩)]:=Array.ext' (by simpa using e1)
    subst hvs
    refine (hhit k1 k2 n1 n2 ⟨b,off,none⟩ w w' hbw hg1 hrun).mono ?_
    rintro e w'' ⟨rfl,rfl⟩
    exact ⟨μ,hR,hF4.trans hF,_,rfl,by simp only [VRel]⟩
   ·cases hs
  ·cases hs
 ·cases hs
section
variable {P:Program} {w:World}
theorem laid_ofH {laid l1 r:List (String × DataW Unit)} {x:String × DataW Unit} (hf:(laid.filter fun x=>x.2.handleName?.isSome)=x::r) (hn:(laid.filter fun x=>x.2.handleName?.isNone)=l1) (h:laidMetH P laid w) :
  (∃ ps,DataW.LaidVars P w l1 ps)∧handlesMet P (x::r) w:=by
 unfold laidMetH at h
 rw [hf,hn] at h
 obtain ⟨⟨ps,h1,_⟩,h2⟩:=h
 exact ⟨⟨ps,h1⟩,h2⟩
theorem grel_handle {E:Env} {g u nG t:Nat} {l:List D} (hl:l=[D.iface u (.agg [.adr nG t])]) (h:w.cell? ⟨g,0,none⟩=some (.iface u (.agg #[.pointer (some ⟨nG,t,none⟩)]))):¬ NoM g∧g<w.heap.size∧CRel NoM w g 0 l:=by
 subst hl
 refine ⟨fun h=>h,?_,?_⟩
 ·rcases Nat.lt_or_ge g w.heap.size with h0|h0
  ·exact h0
  ·simp [World.cell?,Array.getElem?_eq_none h0] at h
 ·simp only [CRel,VRel,VRels]
  exact ⟨⟨_,h,_,rfl,#[.pointer (some ⟨nG,t,none⟩)],rfl,_,[],rfl,rfl,rfl⟩,trivial⟩
end
end Zv
