/- Ranges over maps of many entries, in every order; contracts from runs in all orders. Conditions: none. -/
import Derived.Shelf.GgSortFunc.InsertionK
import Derived.Lib.ValidU
import Derived.Below
import Derived.Test.YtnpoohbeicakkaaGreatDoorZAL
set_option linter.unusedSimpArgs false
set_option linter.unusedVariables false
set_option maxRecDepth 100000
namespace Zv
open Go
noncomputable def rA(a:Arg)(G:List (Nat×List D))(x:AS):Option (List (D×AS)):=match a.ev G x.t with
 | .it nm=>match sget x.s nm with
  | some (.mit (some m) since seen last)=>match sget x.s m with
   | some (.mp es c)=>
    bif (seen.isEmpty||es.isEmpty||es.any (fun e=>Nat.blt e.2.2 last))&&(Nat.ble 2 (es.filter (fun e=>!seen.any (Nat.beq e.2.2))).length&&(es.filter (fun e=>!seen.any (Nat.beq e.2.2))).all (fun e=>Nat.blt e.2.2 since)) then
     some ((es.filter (fun e=>!seen.any (Nat.beq e.2.2))).map fun e=>(.tup [.bool true,e.1,e.2.1],{ x with s:=sset x.s nm (.mit (some m) since (seen++[e.2.2]) c) }))
    else none
   | _=>none
  | _=>none
 | _=>none
theorem MEs.nth{M:Nat→Prop}{w:World}{μ:Mu}:∀{es:List (D×D×Nat)} {ents:List MapEntry} {j:Nat} {e:MapEntry},MEs M w μ es ents→ents[j]?=some e →
  ∃k v,es[j]?=some (k,v,e.born)∧aP M w μ k e.key∧aP M w μ v e.val
 | [],_,j,e,h,he=>by simp only[MEs]at h;subst h;simp at he
 | (k,v,n)::r,_,0,e,h,he=>by
  simp only[MEs]at h;obtain⟨e0,r',rfl,h1,h2,h3,h4⟩:=h;simp only[aT,aC]at he;subst he;exact⟨k,v,by simp[h3],h1,h2⟩
 | (k,v,n)::r,_,j+1,e,h,he=>by
  simp only[MEs]at h;obtain⟨e0,r',rfl,h1,h2,h3,h4⟩:=h;obtain⟨k',v',g1,g2,g3⟩:=MEs.nth h4 (by simpa using he)
  exact⟨k',v',by simpa using g1,g2,g3⟩
theorem run_mapNext{P:Program}{n:Nat}(hn:2≤n)(w:World):∃j,j<n∧(choose (.mapNext n)).run P w = .ok j w.drew:=
 ⟨_,Nat.mod_lt _ (by omega),by
  have hf:¬n≤1:=by omega
  simp only[choose,Sem.run,Question.forced,cI,hf,eV,Question.cut];rfl⟩
section
variable {E:Env} {M0:Nat→Prop} {w0:World} {N:Nat} {μ:Mu} {M:Nat→Prop} {a:Act} {w:World} {x:AS}
theorem op_nxm_all(h:Rel E M0 w0 N μ a w x){o:Operand}{ar:Arg}(h2:cS o=some ar){ty:TypeId}{l:List (D×AS)}(hs:rA ar E.G x=some l):
  ∃p∈l,gd E M0 w0 N μ w x a p.1 p.2 w (do pure (.value (←Instr.next (a.eval o) false ty))):=by
 have hv:=cP h h2;generalize a.eval o=v at *;unfold rA at hs;split at hs
 ·rename_i nm he;rw[he]at hv;simp only[aP]at hv;obtain⟨l0,b,k1,k2,rfl⟩:=hv;split at hs
  ·rename_i m since sn last hg;obtain⟨l',b',mo,g1,g2,g3,g4,g5⟩:=h.st nm _ _ k1 hg;rw[k1]at g1;cases g1;rw[k2]at g2;cases g2;obtain⟨lm,bm,m1,m2,rfl⟩:=g5;have hobj:=jJ (P:=E.P) g4 (by intro _ _ _ hh;cases hh)
   split at hs
   ·rename_i es c hgm;obtain⟨lm',bm',ents,q1,q2,q3,q4,q5⟩:=h.st m _ _ m1 hgm;rw[m1]at q1;cases q1;rw[m2]at q2;cases q2;have hobjm:=jJ (P:=E.P) q4 (by intro _ _ _ hh;cases hh)
    cases hcond:((sn.isEmpty||es.isEmpty||es.any (fun e=>Nat.blt e.2.2 last))&&(Nat.ble 2 (es.filter (fun e=>!sn.any (Nat.beq e.2.2))).length&&(es.filter (fun e=>!sn.any (Nat.beq e.2.2))).all (fun e=>Nat.blt e.2.2 since)))<;>rw[hcond]at hs
    ·cases hs
    simp only[aS,aC]at hs;subst hs;simp only[bE]at hcond;obtain⟨hc1,hc2,hc3⟩:=hcond;have hempty:ents.isEmpty=es.isEmpty:=by
     have hl:ents.toList.length=es.length:=MEs.length q5;rw[dC];simp only[Array.isEmpty_iff,List.isEmpty_iff,←List.length_eq_zero_iff,←hl];simp
    have hguard:(!sn.toArray.isEmpty && !ents.isEmpty&&ents.all fun x=>decide (x.born≥last))=false:=by
     have hany:es.any (fun e=>Nat.blt e.2.2 last)=ents.toList.any (fun e=>Nat.blt e.born last):=
      MEs.any (p:=fun e=>Nat.blt e.2.2 last) (q:=fun e=>Nat.blt e.born last) (fun k v n e hh=>by simp only[hh]) q5
     have hall:ents.all (fun x=>decide (x.born≥last)) = !(ents.toList.any (fun e=>Nat.blt e.born last)):=by
      rw[←Array.all_toList,dC];simp[Nat.blt_eq]
     rw[hall,←hany,hempty,show sn.toArray.isEmpty=sn.isEmpty by simp]
     revert hc1;cases sn.isEmpty<;>cases es.isEmpty<;>cases es.any (fun e=>Nat.blt e.2.2 last)<;>simp
    have hleft:=MEs.filter (p:=fun e=>!sn.any (Nat.beq e.2.2)) (q:=fun e=>!sn.toArray.contains e.born) (fun k v n e hh=>by
     subst hh;show(!sn.any (Nat.beq e.born)) = !sn.toArray.contains e.born;rw[dC];simp only[Bool.not_eq_true',List.any_eq_false,Nat.beq_eq,List.contains_toArray,List.elem_eq_mem,bX];exact⟨fun g hm=>g _ hm rfl,fun g x hx e=>g (e▸hx)⟩) q5
    have hfl:(ents.filter fun e=>!sn.toArray.contains e.born).toList=ents.toList.filter fun e=>!sn.toArray.contains e.born:=by simp
    rw[←hfl]at hleft;generalize hLe:ents.filter (fun e=>!sn.toArray.contains e.born)=left at hleft
    generalize es.filter (fun e=>!sn.any (Nat.beq e.2.2))=L at hleft hc2 hc3 ⊢
    have hlen:left.size=L.length:=by have:=MEs.length hleft;simpa using this
    have hn2:2≤left.size:=by rw[hlen];exact cO hc2
    obtain⟨j,hj,hch⟩:=run_mapNext (P:=E.P) hn2 w;have hej:left.toList[j]?=some (left[j]'hj):=by simp[hj]
    obtain⟨kd,vd,r1,r2,r3⟩:=MEs.nth hleft hej;generalize hee:left[j]'hj=e at hej r1 r2 r3;have hborn:∀e∈left,e.born<since:=by
     intro e hm;obtain⟨i,hi,rfl⟩:=Array.mem_iff_getElem.1 hm;obtain⟨kd,vd,t1,_,_⟩:=MEs.nth hleft (j:=i) (e:=left[i]) (by simp[hi])
     have:=cE.1 hc3 _ (List.mem_of_getElem? t1);simpa[Nat.blt_eq]using this
    have e1:left.filter (fun x=>decide (x.born<since))=left:=Array.filter_eq_self.2 (fun x hx=>by simpa using hborn x hx)
    have e2:left.filter (fun x=>decide (x.born≥since)) = #[]:=by
     rw[Array.filter_eq_empty_iff];intro x hx;have:=hborn x hx;simp;omega
    have hb:b<w.heap.size:=(h.own nm l0 b k1 k2).2;have hw1:Rel E M0 w0 N μ a w.drew x:=h.world rfl;have hdr:Ext (Mm M0 μ) w (Mm M0 μ) w.drew:=⟨aJ _,fun _ _ _=>rfl,fun _ _ h=>h⟩
    let w':World:={ w.drew with heap:=w.heap.setIfInBounds b (.mapIter (some bm) since (sn.toArray.push e.born) c) }
    obtain⟨hx,hR,hf⟩:=hw1.write nm (.mit (some m) since (sn++[e.born]) c) l0 b (w':=w') (x':={ x with s:=sset x.s nm (.mit (some m) since (sn++[e.born]) c) }) k1 k2 (by rw[hg];rfl) (by show(w.heap.setIfInBounds b _).size=w.heap.size;simp)
     (fun k hk=>by simp only[w'];rw[dA (fun e=>hk e.symm)];rfl) (fun n=>rfl) (fun n=>by rw[aN]) rfl rfl
     (fun hx=>⟨l0,b,some bm,k1,k2,g3,by simp[w',hb],lm,bm,m1,m2,rfl⟩)
    refine⟨_,cQ.2 ⟨_,List.mem_of_getElem? r1,rfl⟩,.tuple #[.bool true,e.key,e.val],w',μ,.inl (bP ?_),?_,hR,⟨hf.size,hf.same,hf.live,hf.mu,hf.cle,hf.kept,hf.new⟩⟩
    ·have hset:=vC (P:=E.P) (w:=w.drew) (o':=.mapIter (some bm) since (sn.toArray.push e.born) c) (show w.drew.heap[b]?=_ from g4) (by intro _ _ _ hh;cases hh)
     have hne:left.isEmpty=false:=by
      rw[Bool.eq_false_iff];intro e0;rw[Array.isEmpty_iff]at e0;rw[e0]at hn2;simp at hn2
     have hje:(left.map some)[j]?=some (some e):=by simp[hj,hee]
     simp only[Instr.next,aY,hobj,aM,hobjm,hguard,cN,eV,hLe,bO,e1,e2,hne,Array.append_empty,Array.empty_append,Array.size_map,hch,hje,hset];rfl
    ·simp only[aP];exact⟨_,rfl,aX.cons (by simp only[aP]) (aX.cons (aP.mono hx _ _ (fV.refl _) (aP.mono hdr _ _ (fV.refl _) r2)) (aX.cons (aP.mono hx _ _ (fV.refl _) (aP.mono hdr _ _ (fV.refl _) r3)) aX.nil))⟩
   ·cases hs
  ·cases hs
 ·cases hs
end
theorem cOp_nxm{P:Program}{o:Oper}{ar:Arg}(h:cOp P o=some (.nxm ar)):∃y,o.op = .next y false∧cS y=some ar:=by
 unfold cOp at h;split at h
 ·rename_i op he;cases h;rcases(cExt_kind he).1 with⟨k,l,e⟩|⟨k,l,e⟩<;>cases e
 ·cases ho:o.op
  case next y s=>
   simp only[xT,ho]at h;cases s
   ·simp only[cF,aB,aA,aC,AOp.nxm.injEq]at h;obtain⟨r,h1,rfl⟩:=h;exact⟨y,rfl,h1⟩
   ·simp only[aS,aB,aA,aC,reduceCtorEq,and_false,exists_false]at h
  all_goals
   exfalso;simp only[xT,ho]at h
   repeat' (first|contradiction|(cases h;done)|(split at h)|(simp only[aB,aA,aC,reduceCtorEq,and_false,exists_false,cond_eq_ite]at h)|(obtain⟨_,_,h⟩:=h))
noncomputable section
def bAlt(o:cR)(G:List (Nat×List D))(x:AS):Option (List (D×AS)):=
 match o.op with
 | .nxm a=>rA a G x
 | _=>none
def oJ(l:List R)(f:AS→List R):List R:=l.flatMap fun r=>match r with
 | .ok .normal y=>f y
 | r=>[r]
def mZ(cx:Cx)(cl:CL):List cR→AS→List R
 | [],x=>[.ok .normal x]
 | o::r,x=>match wanted o x with
  | none=>[.no]
  | some false=>mZ cx cl r (x.put o.dst (.tup []))
  | some true=>match bAlt o cx.G x with
   | some l=>l.flatMap fun p=>mZ cx cl r ⟨iI o.dst p.2.t p.1,p.2.s,p.2.c,p.2.d,p.2.r⟩
   | none=>oJ [zOp cx cl o x] (mZ cx cl r)
def AC.nx:AC→Bool
 | .reg none ops=>ops.any fun o=>match o.op with | .nxm _=>true|_=>false
 | .seq a b=>a.nx||b.nx
 | .cond _ a b=>a.nx||b.nx
 | .block _ a=>a.nx
 | .loop a=>a.nx
 | .scope a=>a.nx
 | _=>false
def bLoop(f:AS→List R):Nat→AS→List R
 | 0,_=>[.no]
 | n+1,x=>oJ (f x) (bLoop f n)
def bC(cx:Cx)(cl:CL)(k:Nat):AC→AS→List R
 | .reg none ops,x=>mZ cx cl ops x
 | .seq a b,x=>bif a.nx||b.nx then oJ (bC cx cl k a x) (bC cx cl k b) else[zC (.seq a b) cx cl k x]
 | .cond c a b,x=>match c.ev cx.G x.t with
  | .bool r=>bif r then bC cx cl k a x else bC cx cl k b x
  | _=>[.no]
 | .block id a,x=>bif a.nx then(bC cx cl k a x).map fun r=>(R.rec .no (zblk id) r:R) else[zC (.block id a) cx cl k x]
 | .loop a,x=>bif a.nx then bLoop (bC cx cl k a) k x else[zC (.loop a) cx cl k x]
 | .scope a,x=>bC cx cl k a x
 | c,x=>[zC c cx cl k x]
section
variable {E:Env} {cx:Cx} {M0:Nat→Prop} {w0:World} {N:Nat} {μ:Mu} {M:Nat→Prop} {a:Act} {w:World} {x:AS} {b:Frame} {k:List Item} {cs:List Frame} {cl:CL}
def DB(E:Env)(M0:Nat→Prop)(w0:World)(N:Nat)(μ:Mu)(w:World)(x:AS)(m:Machine)(b:Frame)(k:List Item)(cs:List Frame)(l:List R):Prop:=
 ∃r∈l,∀out y,r = .ok out y→Did E M0 w0 N μ w x m b k cs out y
theorem DB.one{m:Machine}{r:R}(h:∀out y,r = .ok out y→Did E M0 w0 N μ w x m b k cs out y):DB E M0 w0 N μ w x m b k cs [r]:=⟨r,eB.2 rfl,h⟩
theorem DB.of_steps{m m':Machine}{l:List R}(hs:Steps E.P m m')(h:DB E M0 w0 N μ w x m' b k cs l):DB E M0 w0 N μ w x m b k cs l:=by
 obtain⟨r,h1,h2⟩:=h;exact⟨r,h1,fun out y e=>(h2 out y e).of_steps hs⟩
theorem DB.bthen{m:Machine}{it:Item}{l:List R}{f:AS→List R}(hx:∀id,iA id (it::k)=iA id k)(h1:DB E M0 w0 N μ w x m b (it::k) cs l)
  (h2:∀z a' w' μ',Rel E M0 w0 N μ' a' w' z→fV μ μ'→z.r=x.r→DB E M0 w0 N μ' w' z (lone (fat b a' (it::k)) cs w') b k cs (f z)) :
  DB E M0 w0 N μ w x m b k cs (oJ l f):=by
 obtain⟨r,hr,hD⟩:=h1;have hmem:∀q,(q∈(match r with | .ok .normal y=>f y|r=>[r]))→q∈oJ l f:=fun q hq=>List.mem_flatMap.2 ⟨r,hr,hq⟩
 cases r with
 | no=>exact⟨.no,hmem _ (eB.2 rfl),fun out y e=>by cases e⟩
 | ok o z=>
  cases o with
  | normal=>
   obtain⟨a1,w1,μ1,ou1,r1,f1,e1,o1,n1⟩:=hD .normal z rfl;cases o1;obtain⟨q,hq,hQ⟩:=h2 z a1 w1 μ1 r1 f1.mu e1;refine⟨q,hmem _ hq,fun out y e=>?_⟩
   obtain⟨a2,w2,μ2,ou2,r2,f2,e2,o2,n2⟩:=hQ out y e;exact⟨a2,w2,μ2,ou2,r2,f1.trans f2,e2.trans e1,o2,n2.of_steps n1⟩
  | exit i=>exact⟨_,hmem _ (eB.2 rfl),fun out y e=>by cases e;exact(hD _ _ rfl).pass hx nofun⟩
  | ret=>exact⟨_,hmem _ (eB.2 rfl),fun out y e=>by cases e;exact(hD _ _ rfl).pass hx nofun⟩
  | pan c=>exact⟨_,hmem _ (eB.2 rfl),fun out y e=>by cases e;exact(hD _ _ rfl).pass hx nofun⟩
theorem bops_did(hcl:nH E cl)(hM:∀t n f,cx.M t n=some f→oD E.P t n=some f)(hG:cx.G=E.G){ops:Array Oper}:
  ∀{l:List Oper} {idx:List Nat} {az:List cR} {μ:Mu} {a:Act} {w:World} {x:AS},Rel E M0 w0 N μ a w x→gF b x.r μ→idx.map (ops[·]?)=l.map some→lD E.P N ops l=some az →
   DB E M0 w0 N μ w x (lone (fat b a (.inRegion ops idx::k)) cs w) b k cs (mZ cx cl az x):=by
 intro l
 induction l with
 | nil=>
  intro idx az μ a w x h hro hi hc;simp only[eX,List.map_eq_nil_iff]at hi;subst hi;simp only[lD,aC]at hc;subst hc;exact DB.one fun out y e=>by cases e;exact⟨a,w,μ,.normal,h,Fr.refl _ _ _ _,rfl,rfl,.one kJ⟩
 | cons o l ih=>
  intro idx az μ a w x h hro hi hc;cases idx with
  | nil=>cases hi
  | cons i rest=>
   simp only[bW,List.cons.injEq]at hi;obtain⟨hio,hi⟩:=hi;simp only[lD,aB,aA,aC]at hc;obtain⟨ao,hao,r,hr,rfl⟩:=hc;obtain⟨hop,hdst,hgd,hd⟩:=mP hao;cases hwd:wanted ao x with
   | none=>
    have:mZ cx cl (ao::r) x=[.no]:=by simp only[mZ,hwd]
    rw[this];exact DB.one fun out y e=>by cases e
   | some c=>
    have hw:=jT h hgd hwd;cases c with
    | true=>
     cases hal:bAlt ao cx.G x with
     | none=>
      have:mZ cx cl (ao::r) x=oJ [zOp cx cl ao x] (mZ cx cl r):=by simp only[mZ,hwd,hal]
      rw[this];exact DB.bthen (it:=.inRegion ops rest) (fun _=>rfl) (DB.one fun out y hz=>op_did hcl hM hG h hro hao hio hw hz)
       (fun z a' w' μ' g1 g2 g3=>ih g1 (by rw[g3];exact hro.mono g2) hi hr)
     | some l'=>
      have hbo:mZ cx cl (ao::r) x=l'.flatMap fun p=>mZ cx cl r ⟨iI ao.dst p.2.t p.1,p.2.s,p.2.c,p.2.d,p.2.r⟩:=by simp only[mZ,hwd,hal]
      rw[hbo];unfold bAlt at hal;split at hal
      ·rename_i ar hnx;rw[hnx]at hop;obtain⟨y,hoy,hay⟩:=cOp_nxm hop;rw[hG]at hal;obtain⟨p,hp,v,w',μ',hrun,hv,hR,hf⟩:=op_nxm_all (ty:=o.type) h hay hal;have hpr:p.2.r=x.r:=by
        unfold rA at hal
        repeat' (first|contradiction|(split at hal)|(simp only[cond_eq_ite,aC]at hal))
        subst hal;obtain⟨e,_,rfl⟩:=cQ.1 hp;rfl
       have hg:=lM (P:=E.P) (b:=b) (k:=k) (cs:=cs) (w:=w) (rest:=rest) hio hw (.inr (fun c e=>by rw[hoy]at e;cases e))
       have hfin:∀a v,(fat b a (.inRegion ops (i::rest)::k)).finish v=fat b (a.put o.dst v) (.inRegion ops rest::k):=fun a v=>by
        rw[mN,hio];rfl
       have hput:=hR.put (dst:=o.dst) hd hv;have hex:(execOp a.eval o).run E.P w=(do pure (.value (←Instr.next (a.eval y) false o.type)):Sem Next).run E.P w:=by simp only[execOp,hoy]
       have hst:Go.step E.P (lone (fat b a (.inRegion ops (i::rest)::k)) cs w) = .next (lone (fat b (a.put o.dst v) (.inRegion ops rest::k)) cs w'):=by
        refine cV ?_;rw[hg,←hfin];rcases hrun with hr|⟨hr,rfl⟩
        ·exact oR (hex.trans hr)
        ·exact rO (hex.trans hr)
       have hput':Rel E M0 w0 N μ' (a.put o.dst v) w' ⟨iI ao.dst p.2.t p.1,p.2.s,p.2.c,p.2.d,p.2.r⟩:=by
        rw[hdst];revert hput;cases o.dst<;>exact id
       obtain⟨q,hq,hQ⟩:=ih hput' (by show gF b p.2.r μ';rw[hpr];exact hro.mono hf.mu) hi hr
       refine⟨q,List.mem_flatMap.2 ⟨p,hp,hq⟩,fun out z e=>?_⟩
       obtain⟨a2,w2,μ2,ou2,r2,f2,e2,o2,n2⟩:=hQ out z e;exact⟨a2,w2,μ2,ou2,r2,hf.trans f2,e2.trans hpr,o2,n2.of_steps (.one hst)⟩
      ·cases hal
    | false=>
     have hput:Rel E M0 w0 N μ (a.put o.dst undef) w (x.put ao.dst (.tup [])):=by
      rw[hdst];exact h.put hd (by simp only[aP];exact⟨#[],rfl,rfl⟩)
     have hst:=kR (P:=E.P) (b:=b) (a:=a) (k:=k) (cs:=cs) (w:=w) (ops:=ops) (i:=i) (rest:=rest) (by simp[hio,hw])
     simp only[hio,aO]at hst;have hbo:mZ cx cl (ao::r) x=mZ cx cl r (x.put ao.dst (.tup [])):=by simp only[mZ,hwd]
     rw[hbo];obtain⟨q,hq,hQ⟩:=ih hput (by rw[(put_r x _ _).1];exact hro) hi hr
     refine DB.of_steps (.one hst) ⟨q,hq,fun out y e=>?_⟩
     obtain⟨a',w',μ',ou,h1,h2,h3,h4,h5⟩:=hQ out y e;exact⟨a',w',μ',ou,h1,by revert h2;cases ao.dst<;>exact id,h3.trans (put_r x _ _).1,h4,h5⟩
theorem bloop_did{c:Code}{f:AS→List R}:∀(n:Nat) {μ:Mu} {a:Act} {w:World} {x:AS},
  (∀{μ:Mu} {a:Act} {w:World} {x:AS},Rel E M0 w0 N μ a w x→gF b x.r μ→DB E M0 w0 N μ w x (lone (fat b a (.code c :: .inLoop c::k)) cs w) b (.inLoop c::k) cs (f x)) →
  Rel E M0 w0 N μ a w x→gF b x.r μ→DB E M0 w0 N μ w x (lone (fat b a (.code c :: .inLoop c::k)) cs w) b k cs (bLoop f n x)
 | 0,μ,a,w,x,_,_,_=>DB.one fun out y e=>by cases e
 | n+1,μ,a,w,x,hf,h,hro=>
  DB.bthen (it:=.inLoop c) (fun _=>rfl) (hf h hro) (fun z a' w' μ' g1 g2 g3=>DB.of_steps (.one xK) (bloop_did n hf g1 (by rw[g3];exact hro.mono g2)))
theorem bcode_did(H:Ctx E cx cl):∀(c:Code) {ac:AC},comp E.P N c=some ac→∀{fuel:Nat} {μ:Mu} {a:Act} {w:World} {x:AS} {b:Frame} {k:List Item},Rel E M0 w0 N μ a w x→gF b x.r μ →
  DB E M0 w0 N μ w x (lone (fat b a (.code c::k)) cs w) b k cs (bC cx cl fuel ac x):=by
 intro c;have fall:∀(c:Code) {ac:AC},comp E.P N c=some ac→∀{fuel:Nat} {μ:Mu} {a:Act} {w:World} {x:AS} {b:Frame} {k:List Item},Rel E M0 w0 N μ a w x→gF b x.r μ →
   DB E M0 w0 N μ w x (lone (fat b a (.code c::k)) cs w) b k cs [zC ac cx cl fuel x]:=fun c ac hc fuel μ a w x b k h hro=>DB.one fun out y e=>pV H c hc h hro e
 induction c with
 | skip=>intro ac hc fuel μ a w x b k h hro;have hc':=hc;simp only[comp,aC]at hc;subst hc;simp only[bC];exact fall _ hc' h hro
 | label l=>intro ac hc fuel μ a w x b k h hro;have hc':=hc;simp only[comp,aC]at hc;subst hc;simp only[bC,AC.nx,cF];exact fall _ hc' h hro
 | exit id=>intro ac hc fuel μ a w x b k h hro;have hc':=hc;simp only[comp,aC]at hc;subst hc;simp only[bC];exact fall _ hc' h hro
 | ret=>intro ac hc fuel μ a w x b k h hro;have hc':=hc;simp only[comp,aC]at hc;subst hc;simp only[bC];exact fall _ hc' h hro
 | goto l=>intro ac hc fuel μ a w x b k h hro;have hc':=hc;simp only[comp,aC]at hc;subst hc;simp only[bC];exact fall _ hc' h hro
 | refuse s=>intro ac hc;simp[comp]at hc
 | rangeFunc f ps p q ihp ihq=>
  intro ac hc fuel μ a w x b k h hro;have hc':=hc;simp only[comp,aB,aA]at hc;obtain⟨g,hg,p',hp,q',hq,hc⟩:=hc;cases hps:(ps.toList.all fun p=>Nat.blt p N)<;>rw[hps]at hc
  ·cases hc
  ·simp only[aS,aC]at hc;subst hc;simp only[bC];exact fall _ hc' h hro
 | region id ops draw=>
  intro ac hc fuel μ a w x b k h hro;have hc':=hc;simp only[comp,aB,aA]at hc;obtain⟨l,hl,hc⟩:=hc;cases draw with
  | false=>
   simp only[cF,aC]at hc;subst hc;simp only[bC];refine DB.of_steps (.one rG) (bops_did H.call H.meth H.glob h hro ?_ hl);apply List.ext_getElem?;intro j;simp only[gX,List.getElem?_range];by_cases hj:j<ops.size
   ·simp[hj]
   ·simp[hj]
  | true=>
   simp only[aS]at hc;cases hok:(mS ops.size (ancs ops.toList []) l (nU (ancs ops.toList []) (l.map fun o=>o.op.kd)) 0 [] []&&Nat.ble ops.size (nU (ancs ops.toList []) (l.map fun o=>o.op.kd)).length)<;>rw[hok]at hc
   ·cases hc
   ·simp only[aS,aC]at hc;subst hc;simp only[bC];exact fall _ hc' h hro
 | seq p q ihp ihq=>
  intro ac hc fuel μ a w x b k h hro;have hc':=hc;simp only[comp,aB,aA,aC]at hc;obtain⟨p',hp,q',hq,rfl⟩:=hc;simp only[bC];cases hn:(p'.nx||q'.nx)
  ·exact fall _ hc' h hro
  ·simp only[aS];exact DB.of_steps (.one fstep_seq) (DB.bthen (it:=.code q) (fun _=>rfl) (ihp hp h hro) (fun z a' w' μ' g1 g2 g3=>ihq hq g1 (by rw[g3];exact hro.mono g2)))
 | cond c p q ihp ihq=>
  intro ac hc fuel μ a w x b k h hro;simp only[comp,aB,aA,aC]at hc;obtain⟨c',hcc,rfl⟩:=hc;have hv:=cP h hcc;simp only[bC];rw[H.glob];split
  ·rename_i r he;rw[he]at hv;simp only[aP]at hv;refine DB.of_steps (.one (vI hv)) ?_;cases r with
   | true=>
    cases hp:comp E.P N p with
    | none=>exact DB.one (r:=.no) fun out y e=>by cases e
    | some p'=>exact ihp hp h hro
   | false=>
    cases hq:comp E.P N q with
    | none=>exact DB.one (r:=.no) fun out y e=>by cases e
    | some q'=>exact ihq hq h hro
  ·exact DB.one fun out y e=>by cases e
 | block id p ih=>
  intro ac hc fuel μ a w x b k h hro;have hc':=hc;simp only[comp,aB,aA,aC]at hc;obtain⟨p',hp,rfl⟩:=hc;simp only[bC];cases hn:p'.nx
  ·exact fall _ hc' h hro
  ·obtain⟨r,h1,h2⟩:=ih (k:=.inBlock id::k) (fuel:=fuel) hp h hro;exact⟨_,cQ.2 ⟨r,h1,rfl⟩,fun out y e=>block_did e h2⟩
 | loop p ih=>
  intro ac hc fuel μ a w x b k h hro;have hc':=hc;simp only[comp,aB,aA,aC]at hc;obtain⟨p',hp,rfl⟩:=hc;simp only[bC];cases hn:p'.nx
  ·exact fall _ hc' h hro
  ·exact DB.of_steps (.one fstep_loop) (bloop_did fuel (fun h hro=>ih hp h hro) h hro)
 | scope p ih=>
  intro ac hc fuel μ a w x b k h hro;have hc':=hc;simp only[comp,aB,aA,aC]at hc;obtain⟨p',hp,rfl⟩:=hc;simp only[bC];cases hl:pJ p' with
  | nil=>
   simp only[lV];refine DB.of_steps (.one tD) ?_;obtain⟨r,h1,h2⟩:=ih (k:=.inScope p::k) (fuel:=fuel) hp h hro;refine⟨r,h1,fun out y e=>?_⟩
   have hD:=h2 out y e;by_cases ho:out = .normal
   ·subst ho;refine hD.bind fun a' w' μ' g1 g2 g3=>?_
    exact⟨a',w',μ',.normal,g1,Fr.refl _ _ _ _,rfl,rfl,.one pL⟩
   ·refine hD.pass (fun i=>rE (fun l _=>?_) k) ho
    cases hf:findLabel p l with
    | none=>rfl
    | some z=>
     have:=(lab_of p hp hf).1;rw[hl]at this;cases this
  | cons n ns=>
   rw[hl]at hc';cases hrr:iO p' n with
   | none=>
    simp only[lV,hrr];exact DB.one (r:=.no) fun out y e=>by cases e
   | some r=>
    simp only[lV,hrr]at hc' ⊢;simp only[bC];exact fall _ hc' (fuel:=fuel) h hro
end
end
end Zv
namespace Zv
open Go
noncomputable section
theorem bThen_ne{l:List R}{f:AS→List R}(h:l≠[])(hf:∀x,f x≠[]):oJ l f≠[]:=by
 cases l with
 | nil=>exact absurd rfl h
 | cons r l=>
  unfold oJ;rw[List.flatMap_cons];intro e;have:=(List.append_eq_nil_iff.1 e).1;split at this
  ·exact hf _ this
  ·cases this
theorem nxmAll_ne{a:Arg}{G:List (Nat×List D)}{x:AS}{l:List (D×AS)}(h:rA a G x=some l):l≠[]:=by
 unfold rA at h;split at h
 ·split at h
  ·split at h
   ·simp only[cond_eq_ite,Option.ite_none_right_eq_some,aC]at h;obtain⟨hb,rfl⟩:=h;simp only[bE,Nat.ble_eq]at hb;intro e;have h2:=hb.2.1;rw[List.map_eq_nil_iff]at e;rw[e]at h2;simp at h2
   ·cases h
  ·cases h
 ·cases h
theorem bOps_ne(cx:Cx)(cl:CL):∀(ops:List cR) (x:AS),mZ cx cl ops x≠[]
 | [],x=>by simp[mZ]
 | o::r,x=>by
  unfold mZ;split
  ·simp
  ·exact bOps_ne cx cl r _
  ·split
   ·rename_i l hl;have hne:l≠[]:=by
     unfold bAlt at hl;split at hl
     ·exact nxmAll_ne hl
     ·cases hl
    cases l with
    | nil=>exact absurd rfl hne
    | cons p l=>
     rw[List.flatMap_cons];intro e;exact bOps_ne cx cl r _ (List.append_eq_nil_iff.1 e).1
   ·exact bThen_ne (by simp) (bOps_ne cx cl r)
theorem bLoop_ne{f:AS→List R}(hf:∀x,f x≠[]):∀(n:Nat) (x:AS),bLoop f n x≠[]
 | 0,x=>by simp[bLoop]
 | n+1,x=>bThen_ne (hf x) (bLoop_ne hf n)
theorem bC_ne(cx:Cx)(cl:CL)(k:Nat):∀(c:AC) (x:AS),bC cx cl k c x≠[]:=by
 intro c
 induction c with
 | reg s ops=>intro x;cases s with
  | none=>exact bOps_ne cx cl ops x
  | some s=>simp[bC]
 | seq a b iha ihb=>
  intro x;unfold bC;cases a.nx||b.nx
  ·simp
  ·exact bThen_ne (iha x) ihb
 | cond c a b iha ihb=>
  intro x;unfold bC;split
  ·rename_i r _;cases r
   ·exact ihb x
   ·exact iha x
  ·simp
 | block id a iha=>
  intro x;unfold bC;cases a.nx
  ·simp
  ·simp[iha x]
 | loop a iha=>
  intro x;unfold bC;cases a.nx
  ·simp
  ·exact bLoop_ne iha k x
 | scope a iha=>intro x;unfold bC;exact iha x
 | _=>intro x;simp[bC]
def Ord(cx:Cx)(k m f:Nat)(args:List D)(p:D×Bool):Prop:=
 ∃A,cx.T f=some A∧Nat.beq args.length A.np=true∧∀r∈bC cx (zN cx k m).fn k A.body (start args st0 0),pout (zbody (zN cx k m).df A r)=some p
open Classical in
def bev(cx:Cx)(k m f:Nat)(args:List D):Option (D×Bool):=if h:∃p,Ord cx k m f args p then some h.choose else none
theorem bev_eq{cx:Cx}{k m f:Nat}{args:List D}{p:D×Bool}(h:Ord cx k m f args p):bev cx k m f args=some p:=by
 have hex:∃p,Ord cx k m f args p:=⟨p,h⟩
 unfold bev;rw[dif_pos hex];obtain⟨A,h1,h2,h3⟩:=hex.choose_spec;obtain⟨A',g1,g2,g3⟩:=h;rw[h1]at g1;cases g1;cases hl:bC cx (zN cx k m).fn k A.body (start args st0 0) with
 | nil=>exact absurd hl (bC_ne cx _ k _ _)
 | cons r l=>
  have e1:=h3 r (by rw[hl];simp)
  have e2:=g3 r (by rw[hl];simp)
  rw[e1]at e2;exact e2
theorem pout_rel{E:Env}{M:Nat→Prop}{w w':World}{μ':Mu}{s':St}{c':Nat}{r:D}{v:Value}{p:D×Bool}(hM:∀b,M b→b<w.heap.size)(hS':kU E M w μ' w' s' c')(hvr:aP (Mm M μ') w' μ' r v)
  (h:(match frz true 20 s' r with|some d=>some (d,true)|none=>(frz false 20 s' r).map fun d=>(d,false))=some p) :
  aP M w' mu0 p.1 v∧(p.2=true→aP (fun b=>b<w.heap.size) w' mu0 p.1 v):=by
 have hnm:∀nm l b,μ' nm=some l→l.blk=some b→¬M b:=fun nm l b h1 h2 hm=>by have:=hM b hm;have:=(hS'.own nm l b h1 h2).1;omega
 have hnw:∀nm l b,μ' nm=some l→l.blk=some b→¬(b<w.heap.size):=fun nm l b h1 h2 hm=>by have:=(hS'.own nm l b h1 h2).1;omega
 split at h
 ·rename_i d hd;cases h;exact⟨rH hS' hnm (fun e=>by cases e) 20 r d v hd hvr,fun _=>rH hS' hnw (fun e=>by cases e) 20 r d v hd hvr⟩
 ·rename_i hd;simp only[aG]at h;obtain⟨d,hd,rfl⟩:=h;exact⟨rH hS' hnm (fun _ b _ hb=>.inl hb) 20 r d v hd hvr,fun e=>by cases e⟩
theorem bev_sound{E:Env}{cx:Cx}(H:POK E cx){k m f:Nat}{args:List D}{p:D×Bool}(h:bev cx k m f args=some p):PureB E f args p.1 p.2:=by
 unfold bev at h;by_cases hex:∃p,Ord cx k m f args p
 case neg=>rw[dif_neg hex]at h;cases h
 rw[dif_pos hex]at h;cases h;obtain⟨A,hA,hlen,hall⟩:=hex.choose_spec;generalize hex.choose=p at hall ⊢;intro M w vals hM hG hv;obtain⟨hcal,fn,hfn,hcomp⟩:=H.body.body f A hA;obtain⟨cd,hbody,hc,hres⟩:=rM hcomp;have C:Ctx E cx (zN cx k m).fn:=⟨(zn_ok H k m).1,H.meth,H.glob,H.mixed⟩;refine⟨hcal,?_⟩;have hS:kU E M w mu0 w st0 0:=
  {size:=aJ _,old:=fun _ _=>rfl,m0lt:=hM,defers:=by simp only[iL],n:=dK _,tm:=fun n=>by rw[wB];simp only[aP]
   st:=fun nm blk l hl=>by simp[mu0]at hl
   lt:=fun nm l hl=>by simp[mu0]at hl
   own:=fun nm l b hl=>by simp[mu0]at hl
   inj:=fun n m l l' b _ _ hl=>by simp[mu0]at hl
   glob:=hG,env:=⟨rfl,rfl⟩ }
 have hx:Ext M w (Mm M mu0) w:=⟨aJ _,fun _ _ _=>rfl,fun b hb hm=>by
  rcases hm with hm|⟨nm,l,e,_⟩
  ·exact hm
  ·simp[mu0]at e⟩
 intro cs;have hst:=start_rel (N:=fn.ntmps) hS (aX.mono hx _ _ (fV.refl _) hv);rw[enter_fat hfn hbody];obtain⟨r,hr,hD⟩:=bcode_did (b:={ (default:Frame) with fn:=f,kind:=.normal }) (cs:=cs) (k:=[]) C cd hc (fuel:=k) hst rfl;have hp:=hall r hr;unfold pout at hp;cases r with
 | no=>simp[zbody]at hp
 | ok out x=>
  split at hp
  ·rename_i q s' c' hz;obtain⟨e,w',fr,⟨μ',hS',hF,v,rfl,hvr⟩,h2,h3,h4⟩:=body_one (zn_ok H k m).2 hfn hres rfl (hD out x rfl) hz;obtain⟨g1,g2⟩:=pout_rel hM hS' hvr hp;exact⟨_,w',fr,⟨v,rfl,g1,g2,hF.size,hS'.env,fun b hb=>hS'.old b hb⟩,h2,h3,h4⟩
  ·cases hp
/-! Levels. -/
def wev(ms:Nat→Bool)(k m:Nat)(cx:Cx)(f:Nat)(args:List D):Option (D×Bool):=bif ms f then bev cx k m f args else pev cx k m f args
def lw(B:Cx)(ps ms:Nat→Bool)(k m:Nat):Nat→Cx
 | 0=>B
 | n+1=>{ B with X:=fun f=>bif ps f then some (pcall (wev ms k m (lw B ps ms k m n) f)) else B.X f }
theorem wev_sound{E:Env}{cx:Cx}(H:POK E cx){ms:Nat→Bool}{k m f:Nat}{args:List D}{p:D×Bool}(h:wev ms k m cx f args=some p):PureB E f args p.1 p.2:=by
 unfold wev at h;cases hm:ms f<;>rw[hm]at h
 ·exact pev_sound H h
 ·exact bev_sound H h
theorem lw_ok{E:Env}{B:Cx}(H:POK E B)(ps ms:Nat→Bool)(k m:Nat):∀n,POK E (lw B ps ms k m n)
 | 0=>H
 | n+1=>{H with
   body:=⟨H.body.body⟩
   known:=H.known
   spec:=fun f g h=>by
    have h':(bif ps f then some (pcall (wev ms k m (lw B ps ms k m n) f)) else B.X f)=some g:=h
    cases hp:ps f<;>rw[hp]at h'
    ·intro _ _ _ _ _ _ _ _ _ _ _ h1 h2 h3;exact H.spec f g h' h1 h2 h3
    ·cases h';intro _ _ _ _ _ _ _ _ _ _ _ h1 h2 h3;exact sp_pcall (fun fa p hp=>wev_sound (lw_ok H ps ms k m n) hp) h1 h2 h3 }
theorem pure_of_wev{E:Env}{cx:Cx}(H:POK E cx){ms:Nat→Bool}{k m f:Nat}{args:List D}{p:D×Bool}(h:wev ms k m cx f args=some p):xZ E f args p.1:=fun M w vals hM hG hv=>
 (wev_sound H h M w vals hM hG hv).2.mono fun e w' ⟨v,h1,h2,_,h3,h4,h5⟩=>⟨v,h1,h2,h3,h4,h5⟩
section
variable {B:Cx} {ps ms:Nat→Bool} {k m:Nat}
theorem wcall_pure{f:Nat}(hp:ps f=true)(n j:Nat)(args:List D)(s:St)(c:Nat):(zN (lw B ps ms k m (n+1)) k (j+1)).fn (.fn f) args s c=pcall (wev ms k m (lw B ps ms k m n) f) args s c:=by
 show zspec (lw B ps ms k m (n+1)) f _ args s c=_;unfold zspec;have h:(lw B ps ms k m (n+1)).X f=some (pcall (wev ms k m (lw B ps ms k m n) f)):=by
  show(bif ps f then some (pcall (wev ms k m (lw B ps ms k m n) f)) else B.X f)=_
  rw[hp];rfl
 rw[h]
theorem uE:∀n,(lw B ps ms k m n).T=B.T∧(lw B ps ms k m n).G=B.G∧(lw B ps ms k m n).M=B.M∧(lw B ps ms k m n).K=B.K
 | 0=>⟨rfl,rfl,rfl,rfl⟩
 | _+1=>⟨rfl,rfl,rfl,rfl⟩
theorem lw_X{f:Nat}(hp:ps f=false)(n:Nat):(lw B ps ms k m n).X f=B.X f:=by
 cases n with
 | zero=>rfl
 | succ n=>
  show(bif ps f then some (pcall (wev ms k m (lw B ps ms k m n) f)) else B.X f)=_
  rw[hp];rfl
theorem wcall_spec{f:Nat}{g:List D→St→Nat→FR}(hp:ps f=false)(hX:B.X f=some g)(n j:Nat)(args:List D)(s:St)(c:Nat):(zN (lw B ps ms k m n) k (j+1)).fn (.fn f) args s c=g args s c:=by
 show zspec (lw B ps ms k m n) f _ args s c=_;unfold zspec;rw[lw_X hp n,hX]
theorem wcall_in{f:Nat}{A:AF}(hp:ps f=false)(hX:B.X f=none)(hK:B.K f=[])(hT:B.T f=some A)(n j:Nat)(args:List D)(s:St)(c:Nat)(hl:Nat.beq args.length A.np=true):
  (zN (lw B ps ms k m n) k (j+1)).fn (.fn f) args s c=zbody (zN (lw B ps ms k m n) k j).df A (zC A.body (lw B ps ms k m n) (zN (lw B ps ms k m n) k j).fn k (start args s c)):=by
 show zspec (lw B ps ms k m n) f (zmemo (lw B ps ms k m n) f (zcall (lw B ps ms k m n) k (zN (lw B ps ms k m n) k j) f)) args s c=_;unfold zspec;rw[lw_X hp n,hX];show zmemo (lw B ps ms k m n) f (zcall (lw B ps ms k m n) k (zN (lw B ps ms k m n) k j) f) args s c=_;unfold zmemo;rw[(uE n).2.2.2,hK];show zcall (lw B ps ms k m n) k (zN (lw B ps ms k m n) k j) f args s c=_;unfold zcall
 rw[(uE n).1,hT];simp only[hl,aS]
theorem wcall_known{f:Nat}{l:List (List D×D)}{p:List D×D}(hp:ps f=false)(hX:B.X f=none)(hK:B.K f=p::l){args fa:List D}{d:D}{s:St}(hf:args.mapM (fr 20 s)=some fa)(hl:zlook fa (p::l)=some d)(n j:Nat)(c:Nat):
  (zN (lw B ps ms k m n) k (j+1)).fn (.fn f) args s c = .ok (.ret d) s c:=by
 show zspec (lw B ps ms k m n) f (zmemo (lw B ps ms k m n) f (zcall (lw B ps ms k m n) k (zN (lw B ps ms k m n) k j) f)) args s c=_;unfold zspec;rw[lw_X hp n,hX];show zmemo (lw B ps ms k m n) f (zcall (lw B ps ms k m n) k (zN (lw B ps ms k m n) k j) f) args s c=_;unfold zmemo;rw[(uE n).2.2.2,hK];simp only[hf,hl]
theorem wev_run{f:Nat}{A:AF}(hT:B.T f=some A)(hm:ms f=false)(n:Nat)(args:List D)(hl:Nat.beq args.length A.np=true):
  wev ms k m (lw B ps ms k m n) f args=pout (zbody (zN (lw B ps ms k m n) k m).df A (zC A.body (lw B ps ms k m n) (zN (lw B ps ms k m n) k m).fn k (start args st0 0))):=by
 unfold wev;rw[hm,cF];unfold pev zcall;rw[(uE n).1,hT];simp only[hl,aS];rfl
theorem wev_orders{f:Nat}{A:AF}(hT:B.T f=some A)(hm:ms f=true)(n:Nat)(args:List D)(hl:Nat.beq args.length A.np=true){p:D×Bool}
  (h:∀r∈bC (lw B ps ms k m n) (zN (lw B ps ms k m n) k m).fn k A.body (start args st0 0),pout (zbody (zN (lw B ps ms k m n) k m).df A r)=some p) :
  wev ms k m (lw B ps ms k m n) f args=some p:=by
 unfold wev;rw[hm,aS];exact bev_eq ⟨A,by rw[(uE n).1,hT],hl,h⟩
end
end
end Zv
namespace Zv
open Go Go.Sort
def row2?:List D→Option (List (Int×Int))
 | []=>some []
 | .int .i64 a :: .int .i64 b::r=>(row2? r).map ((a,b) :: ·)
 | _=>none
def en2:List (Int×Int)→List D
 | []=>[]
 | p::r=>.int .i64 p.1 :: .int .i64 p.2::en2 r
theorem row2_en:∀{cs:List D} {l:List (Int×Int)},row2? cs=some l→cs=en2 l
 | [],l,h=>by simp[row2?]at h;subst h;rfl
 | [d],l,h=>by cases d<;>simp[row2?]at h<;>(rename_i k _;cases k<;>simp[row2?]at h)
 | d::e::r,l,h=>by
  unfold row2? at h;split at h
  ·rename_i h0;cases h0
  ·rename_i a b r' h0;cases h0;simp only[aG]at h;obtain⟨l',h1,rfl⟩:=h;rw[row2_en h1];rfl
  ·cases h
theorem en2_row:∀(l:List (Int×Int)),row2? (en2 l)=some l
 | []=>rfl
 | p::r=>by simp only[en2,row2?,en2_row r,bJ]
theorem nW:∀(l:List (Int×Int)),(en2 l).length=2*l.length
 | []=>rfl
 | p::r=>by simp only[en2,aU,nW r];omega
theorem en2_nag:∀(l:List (Int×Int)),(en2 l).any eU=false
 | []=>rfl
 | p::r=>by simp only[en2,List.any_cons,en2_nag r];rfl
def cAt:List (Int×Int)→Nat→Int
 | [],_=>0
 | p::_,0=>p.1
 | p::_,1=>p.2
 | _::r,t+2=>cAt r t
theorem en2_get:∀(l:List (Int×Int)) (t:Nat),t<2*l.length→(en2 l)[t]?=some (.int .i64 (cAt l t))
 | [],t,h=>by simp at h
 | p::r,0,h=>rfl
 | p::r,1,h=>rfl
 | p::r,t+2,h=>by
  simp only[aU]at h;simpa[en2,cAt]using en2_get r t (by omega)
def mY(x:Int×Int):List Value:=[.int .i64 x.1,.int .i64 x.2]
theorem cAt_get:∀(l:List (Int×Int)) (t:Nat),t<2*l.length→(mY (l.toArray[t / 2]!))[t % 2]! = .int .i64 (cAt l t)
 | [],t,h=>by simp at h
 | p::r,0,h=>by simp[mY,cAt]
 | p::r,1,h=>by simp[mY,cAt]
 | p::r,t+2,h=>by
  simp only[aU]at h;have ih:=cAt_get r t (by omega)
  rw[show(t+2) / 2=t / 2+1 by omega,show(t+2) % 2=t % 2 by omega]
  simpa[cAt]using ih
theorem flat_get(l:List (Int×Int))(t:Nat)(h:t<2*l.length):(flatK mY 2 l.toArray)[t]! = .int .i64 (cAt l t):=by
 rw[get_flatK _ _ _ _ (by simp;omega)]
 exact cAt_get l t h
def insP(x:Int×Int):List (Int×Int)→List (Int×Int)
 | []=>[x]
 | y::r=>if x.1<y.1 then x::y::r else y::insP x r
def fI:List (Int×Int)→List (Int×Int)
 | []=>[]
 | x::r=>insP x (fI r)
theorem insP_perm(x:Int×Int):∀l,(insP x l).Perm (x::l)
 | []=>.refl _
 | y::r=>by
  unfold insP;split
  ·exact .refl _
  ·exact((insP_perm x r).cons y).trans (.swap x y r)
theorem jI:∀l,(fI l).Perm l
 | []=>.refl _
 | x::r=>(insP_perm x _).trans ((jI r).cons x)
def Asc(l:List (Int×Int)):Prop:=l.Pairwise fun a b=>a.1<b.1
theorem insP_asc(x:Int×Int):∀{l:List (Int×Int)},Asc l→(∀y∈l,y.1≠x.1)→Asc (insP x l)
 | [],_,_=>by simp[insP,Asc]
 | y::r,h,hn=>by
  unfold insP;have h':=List.pairwise_cons.1 h;split
  ·rename_i hlt;refine List.pairwise_cons.2 ⟨fun z hz=>?_,h⟩
   rcases bL.1 hz with rfl|hz
   ·exact hlt
   ·have:=h'.1 z hz;omega
  ·rename_i hlt;refine List.pairwise_cons.2 ⟨fun z hz=>?_,insP_asc x h'.2 fun z hz=>hn z (by simp[hz])⟩
   rcases bL.1 ((insP_perm x r).mem_iff.1 hz) with rfl|hz
   ·have:=hn y (by simp);omega
   ·exact h'.1 z hz
theorem tZ:∀{l:List (Int×Int)},(l.map Prod.fst).Nodup→Asc (fI l)
 | [],_=>List.Pairwise.nil
 | x::r,h=>by
  rw[bW,List.nodup_cons]at h;refine insP_asc x (tZ h.2) fun y hy e=>h.1 ?_
  exact e▸List.mem_map_of_mem ((jI r).mem_iff.1 hy)
theorem asc_unique:∀{l l':List (Int×Int)},Asc l→Asc l'→l.Perm l'→l=l':=fun {l l'} h h' hp=>
 hp.eq_of_pairwise (fun a b _ _ h1 h2=>by omega) h h'
theorem sorted_is{l d:List (Int×Int)}(hn:(l.map Prod.fst).Nodup)(hp:d.Perm l)(hs:d.Pairwise fun a b=>¬b.1<a.1):d=fI l:=by
 have hn':(d.map Prod.fst).Nodup:=(hp.map Prod.fst).nodup_iff.2 hn;refine asc_unique ?_ (tZ hn) (hp.trans (jI l).symm);have h2:d.Pairwise fun a b=>a.1≠b.1:=List.pairwise_map.1 hn'
 exact hs.imp₂ (fun a b h1 h2=>by omega) h2
theorem setAt_get{α:Type}:∀(ds cs:List α) (off i:Nat),(eS cs off ds)[i]?=if off≤i∧i<off+ds.length∧i<cs.length then ds[i-off]? else cs[i]?
 | [],cs,off,i=>by simp only[eS,bN];rw[aD (by omega)]
 | d::ds,cs,off,i=>by
  simp only[eS];rw[setAt_get ds _ (off+1) i,List.length_set,aU];by_cases h1:off+1≤i∧i<off+1+ds.length∧i<cs.length
  ·rw[aH h1,aH (by omega),show i-off=(i-(off+1))+1 by omega,List.getElem?_cons_succ]
  ·rw[aD h1,List.getElem?_set];by_cases h2:off=i
   ·subst h2;by_cases h3:off<cs.length
    ·rw[aH rfl,aH h3,aH (by omega),Nat.sub_self,aT]
    ·rw[aH rfl,aD h3,aD (by omega),gO (by omega)]
   ·rw[aD h2,aD (by omega)]
theorem sT(off:Nat)(F vs:Array Value)(h:off+F.size≤vs.size):(putCells id off F vs).toList=eS vs.toList off F.toList:=by
 apply List.ext_getElem?;intro i;rw[setAt_get];simp only[Array.getElem?_toList,putCells,Array.getElem?_mapIdx,eP];by_cases hi:i<vs.size
 ·rw[gY hi,bJ];by_cases h1:off≤i∧i<off+F.size
  ·rw[aH h1,aH ⟨h1.1,h1.2,hi⟩,gY (show i-off<F.size by omega)]
   simp[getElem!_pos F (i-off) (by omega)]
  ·rw[aD h1,aD (by omega)]
 ·rw[Array.getElem?_eq_none (by omega),Option.map_none,aD (by omega)]
noncomputable section
def own2:D→Option (Nat×Nat×Nat)
 | .ms nm off 2 len _=>some (nm,off,len)
 | .gs nm off 2 (len+1)=>some (nm,off,len+1)
 | _=>none
def sortSt(s:St)(nm off len:Nat):Option St:=match sget s nm with
 | some blk=>match dX blk with
  | some cs=>match row2? ((cs.drop off).take (2*len)) with
   | some l=>if(l.map Prod.fst).Nodup∧l.length=len∧len<4611686018427387904 then(stB blk off (en2 (fI l))).map fun b=>sset s nm b else none
   | none=>none
  | none=>none
 | none=>none
def spSort(g:Nat)(args:List D)(s:St)(c:Nat):FR:=
 match args with
 | [a,.fn (.func g') [] []]=>bif Nat.beq g' g then
   match own2 a with
   | some p=>match sortSt s p.1 p.2.1 p.2.2 with
    | some s'=>.ok (.ret (.tup [])) s' c
    | none=>.no
   | none=>.no
  else .no
 | _=>.no
theorem sort_spec{E:Env}{f g:Nat}(hcf:callable E.P f=true)
  (hcon:∀(l:List (Int×Int)) (b off cap:Nat) (w:World),HoldsK mY 2 w b off l.toArray→b<w.heap.size→l.length<4611686018427387904 →
   Calls E.P f #[.slice (some ⟨b,off,none⟩) l.length cap,.func (.func g) #[] #[]] w fun e w'=>e = .returned (.tuple #[])∧∃(d:List (Int×Int)) (n:Nat) (os:Array Obj),d.Perm l∧(d.Pairwise fun a b=>¬b.1<a.1)∧w'=Go.Proofs.sortWorldK mY 2 w b off n d.toArray os) :
  SpOK E f (spSort g):=by
 intro M0 w0 μ w s c args vals o s' c' h hv hs;refine⟨hcf,?_⟩;unfold spSort at hs;split at hs
 ·rename_i a g';cases hg:Nat.beq g' g<;>rw[hg]at hs
  ·cases hs
  have:=aR hg;subst this;simp only[aS]at hs;split at hs
  ·rename_i p hp;obtain⟨nm,off,len⟩:=p;split at hs
   ·rename_i s1 hs1;cases hs;simp only[aX]at hv;obtain⟨v,r,rfl,hv1,v2,r2,rfl,hv2,rfl⟩:=hv;obtain⟨va,vb,rfl,h1,h2⟩:∃va vb,v2 = .func (.func g') va vb∧va.toList=[]∧vb.toList=[]:=by
     simp only[aP,aX]at hv2;exact hv2
    have e1:va = #[]:=Array.ext' h1;have e2:vb = #[]:=Array.ext' h2;subst e1 e2;obtain⟨loc,b,cap,hl,hlb,rfl⟩:∃loc b cap,μ nm=some loc∧loc.blk=some b∧v = .slice (some ⟨b,off,none⟩) len cap:=by
     unfold own2 at hp;split at hp
     ·cases hp;simp only[aP]at hv1;obtain⟨loc,b,q1,q2,q3,_⟩:=hv1;exact⟨loc,b,_,q1,q2,q3⟩
     ·cases hp;simp only[aP]at hv1;obtain⟨loc,cap,q1,q3,q4,q5,q6⟩:=hv1;cases hb:loc.blk with
      | none=>have:=q6 hb;omega
      | some b=>rw[hb]at q3;exact⟨loc,b,_,q1,hb,q3⟩
     ·cases hp
    unfold sortSt at hs1;split at hs1
    ·rename_i blk hblk;split at hs1
     ·rename_i cs hcs;split at hs1
      ·rename_i l hl2;split at hs1
       ·rename_i hcond;obtain⟨hnd,hlen,hbig⟩:=hcond;dsimp only at hlen hbig hl2;simp only[aG]at hs1;obtain⟨blk',hst,rfl⟩:=hs1;subst hlen;dsimp only at hst hblk;obtain⟨l',q1,_,q3⟩:=mQ h hl hblk hcs;rw[hl]at q1;cases q1;obtain⟨hMb,hbw,vs,e,fz,hheap,hth,hle,hcap,hrel⟩:=q3 b hlb;have hrow:=row2_en hl2;have hlens:off+2*l.length≤cs.length∨l.length=0:=by
         have:=congrArg List.length hrow;rw[nW,dG,fO]at this;omega
        have hcell:∀t,t<2*l.length→vs[off+t]?=some (.int .i64 (cAt l t)):=fun t ht=>by
         have h1:cs[off+t]?=some (.int .i64 (cAt l t)):=by
          have:=en2_get l t ht;rw[←hrow,eL,aH ht,List.getElem?_drop]at this;exact this
         have hlt:off+t<cs.length:=by omega
         have h2:(vs.toList.take cs.length)[off+t]?=some vs[off+t]:=by
          rw[eL,aH hlt,Array.getElem?_toList,gY (by omega)]
         have:=hrel.at h1 h2;simp only[aP]at this;rw[gY (by omega),this]
        have hHold:HoldsK mY 2 w b off l.toArray:=fun j hj=>by
         rw[size_flatK]at hj;have hj':j<2*l.length:=by rw[List.size_toArray]at hj;omega
         refine⟨?_,?_⟩
         ·rw[flat_get l j hj'];simp only[World.cell?,hheap];exact hcell j hj'
         ·simp only[World.frozen?,hheap];have:=hth (off+j) (by omega)
          simpa using this
        refine(hcon l b off cap w hHold hbw hbig).mono ?_;rintro e' w' ⟨rfl,d,n,os,hperm,hpw,rfl⟩;have hd:=sorted_is hnd hperm hpw;subst hd;have hpl:(fI l).length=l.length:=(jI l).length_eq;have hF:(flatK mY 2 (fI l).toArray).size=2*l.length:=by rw[size_flatK,List.size_toArray,hpl];omega
        have hfit:off+(flatK mY 2 (fI l).toArray).size≤vs.size∨l.length=0:=by rw[hF];omega
        -- the world in which the row lies in order
        have hw1:(Go.Sort.putRowK mY 2 (Go.Sort.ahead w n) b off (fI l).toArray).heap=w.heap.modify b (onCells (putCells id off (flatK mY 2 (fI l).toArray))):=rfl;have g2:(Go.Sort.putRowK mY 2 (Go.Sort.ahead w n) b off (fI l).toArray).heap.size=w.heap.size:=by rw[hw1,Array.size_modify]
        have g3:(Go.Sort.putRowK mY 2 (Go.Sort.ahead w n) b off (fI l).toArray).heap[b]?=some (.cells (putCells id off (flatK mY 2 (fI l).toArray) vs) e fz):=by
         rw[hw1,Array.getElem?_modify,aH rfl,hheap];rfl
        have g4:∀k,k≠b→(Go.Sort.putRowK mY 2 (Go.Sort.ahead w n) b off (fI l).toArray).heap[k]?=w.heap[k]?:=fun k hk=>by
         rw[hw1,Array.getElem?_modify,aD (Ne.symm hk)]
        have g5:(putCells id off (flatK mY 2 (fI l).toArray) vs).size=vs.size:=by simp[putCells]
        have hus:∀{M:Nat→Prop} {w':World} {μ':Mu},aX M w' μ' (en2 (fI l)) (flatK mY 2 (fI l).toArray).toList:=fun {M w' μ'}=>
         aX.mk (by rw[nW,eP,hF,hpl]) fun i d v hd hv=>by
          have hi:i<2*(fI l).length:=by rw[←nW];exact(cH.1 hd).1
          rw[en2_get _ _ hi]at hd;cases hd;have hf:=flat_get (fI l) i hi;rw[Array.getElem?_toList,gY (by rw[hF];omega)]at hv
          cases hv;rw[getElem!_pos _ i (by rw[hF];omega)]at hf
          rw[hf];simp only[aP]
        have hnag:=en2_nag (fI l);have hdl:(en2 (fI l)).length=2*l.length:=by rw[nW,hpl]
        have hlive:(sget s nm).isSome=true:=by rw[hblk];rfl
        have hw:∀(blk':Blk),(Ext (Mm M0 μ) w (Mm M0 μ) (Go.Sort.putRowK mY 2 (Go.Sort.ahead w n) b off (fI l).toArray)→rR E.P (Mm M0 μ) (Go.Sort.putRowK mY 2 (Go.Sort.ahead w n) b off (fI l).toArray) μ nm blk') →
          tT E M0 w0 μ w c s (.ret (.tup [])) (sset s nm blk') c (.returned (.tuple #[])) (Go.Proofs.sortWorldK mY 2 w b off n (fI l).toArray os):=fun blk' hB=>by
         obtain⟨hx,hR,hF1⟩:=Rel.write (show Rel E M0 w0 0 μ ⟨#[],[]⟩ w ⟨.ls [],s,c,[],none⟩from h) nm blk' loc b (x':=⟨.ls [],sset s nm blk',c,[],none⟩) hl hlb hlive g2 g4 (fun _=>rfl) (fun k=>by rw[aN]) rfl rfl hB
         obtain⟨hR2,hF2⟩:=Rel.more hR (w':=Go.Proofs.sortWorldK mY 2 w b off n (fI l).toArray os) (by
          show _≤(_++os).size;rw[Array.size_append];exact Nat.le_add_right _ _) ⟨rfl,rfl⟩ (fun q hq=>by
          show(_++os)[q]?=_;rw[Array.getElem?_append_left hq])
         exact⟨μ,hR2,hF1.trans hF2,_,rfl,by simp only[aP];exact⟨#[],rfl,by simp only[aX]⟩⟩
        unfold stB at hst;rw[hnag,cF]at hst;have hB0:=h.st nm blk loc hl hblk;cases blk with
        | fix ty cs0=>
         simp only[dX,aC]at hcs;subst hcs;cases hle2:Nat.ble (off+(en2 (fI l)).length) cs0.length<;>simp only[hle2,aS,cF,reduceCtorEq,aC]at hst
         subst hst;have hle3:=cO hle2;rw[hdl]at hle3;obtain⟨l2,b2,vs2,e2,fz2,p1,p2,p3,p4,p5,p6,p7,p8⟩:=hB0;rw[hl]at p1;cases p1;rw[hlb]at p2;cases p2;rw[hheap]at p5;cases p5;exact hw (.fix ty (eS cs0 off (en2 (fI l)))) fun hx=>⟨loc,b,_,e,fz,hl,hlb,by rw[iT];exact p3,p4,g3,by rw[g5];exact p6,by
          rw[sT _ _ _ (by rw[hF];omega)]
          exact aX.setAt off (aX.mono hx _ _ (fV.refl _) p7) hus,p8⟩
        | grow ty cs0=>
         simp only[dX,aC]at hcs;subst hcs;cases hle2:Nat.ble (off+(en2 (fI l)).length) cs0.length<;>simp only[hle2,aS,cF,reduceCtorEq,aC]at hst
         subst hst;have hle3:=cO hle2;rw[hdl]at hle3;obtain⟨l2,p1,hh⟩:=hB0;rw[hl]at p1;cases p1;rcases hh with⟨p2,_⟩|⟨b2,vs2,e2,fz2,p2,p4,p5,p6,p7,p8,p9,p10⟩
         ·rw[hlb]at p2;cases p2
         rw[hlb]at p2;cases p2;rw[hheap]at p5;cases p5;exact hw (.grow ty (eS cs0 off (en2 (fI l)))) fun hx=>⟨loc,hl,.inr ⟨b,_,e,fz,hlb,p4,g3,by rw[g5];exact p6,by rw[g5];exact p7,by rw[iT];exact p8,by
          rw[sT _ _ _ (by rw[hF];omega),iT,qV _ _ _ _ (by rw[eP,hF];exact hle3)]
          exact aX.setAt off (aX.mono hx _ _ (fV.refl _) p9) hus,p10⟩⟩
        | _=>simp[dX]at hcs
       ·cases hs1
      ·cases hs1
     ·cases hs1
    ·cases hs1
   ·cases hs
  ·cases hs
 ·cases hs
end
end Zv
namespace Zv
open Go
noncomputable section
def oM(args:List D)(s:St)(c:Nat):FR:=
 match args with
 | [.str b]=>bif Nat.ble b.length 9223372036854775807 then .ok (.ret (.bool (Go.Lib.validD b))) s c else .no
 | _=>.no
theorem valid_spec{E:Env}{f:Nat}(hcf:callable E.P f=true)
  (hcon:∀(M:Nat→Prop) (b:ByteArray) (w:World),b.size≤9223372036854775807→GRel E M w→Calls E.P f #[.string b] w fun e w'=>e = .returned (.bool (Go.Lib.validD b.data.toList))∧Go.RowKit.Below w.heap.size w w'):SpOK E f oM:=by
 intro M0 w0 μ w s c args vals o s' c' h hv hs;refine⟨hcf,?_⟩;unfold oM at hs;split at hs
 ·rename_i b;cases hb:Nat.ble b.length 9223372036854775807<;>rw[hb]at hs
  ·cases hs
  cases hs;have hle:=cO hb;simp only[aX]at hv;obtain⟨v,r,rfl,hv1,rfl⟩:=hv;simp only[aP]at hv1;subst hv1;refine(hcon _ _ w (by show b.toArray.size≤_;simpa using hle) (Rel.globals0 (show Rel E M0 w0 0 μ ⟨#[],[]⟩ w ⟨.ls [],s,c,[],none⟩from h))).mono ?_
  rintro e w' ⟨rfl,hbe⟩;obtain⟨hR2,hF2⟩:=Rel.more (show Rel E M0 w0 0 μ ⟨#[],[]⟩ w ⟨.ls [],s,c,[],none⟩from h) (w':=w') hbe.size ⟨hbe.os,hbe.output⟩ hbe.block
  exact⟨μ,hR2,hF2,_,rfl,by simp only[aP]⟩
 ·cases hs
end
end Zv
namespace Zv
open Go Ab
noncomputable section
def kZ(b:UInt8):Bool:=Nat.ble 97 b.toNat&&Nat.ble b.toNat 122
def tK(b:UInt8):Bool:=Nat.ble 48 b.toNat&&Nat.ble b.toNat 57
def fX(b:UInt8):Bool:=kZ b||(tK b||Nat.beq b.toNat 45)
def abc:List UInt8:=[97,98,99,100,101,102,103,104,105,106,107,108,109,110,111,112,113,114,115,116,117,118,119,120,121,122,48,49,50,51,52,53,54,55,56,57,45]
def cells:List D:=(List.range 256).map fun b=>.bool (fX (UInt8.ofNat b))
def pm:Nat:=8958979769901918727308852585980119618521726148427281092432711104417569182240077948253877120406471126528
def ps(f:Nat):Bool:=Nat.testBit pm f
def g3:List D:=[(.int .u8 128),(.int .u8 191),(.int .u8 160),(.int .u8 191),(.int .u8 128),(.int .u8 159),(.int .u8 144),(.int .u8 191),(.int .u8 128),(.int .u8 143),(.int .u8 0),(.int .u8 0),(.int .u8 0),(.int .u8 0),(.int .u8 0),(.int .u8 0),(.int .u8 0),(.int .u8 0),(.int .u8 0),(.int .u8 0),(.int .u8 0),(.int .u8 0),(.int .u8 0),(.int .u8 0),(.int .u8 0),(.int .u8 0),(.int .u8 0),(.int .u8 0),(.int .u8 0),(.int .u8 0),(.int .u8 0),(.int .u8 0)]
def g0:List D:=[(.sl false 4 [(.str [105,110,105,110]),(.str [105,48,105,110,105,110]),(.str [105,110,105,48,105,110]),(.str [105,110,105,110,105,110])])]
def g1:List D:=[(.sl false 3 [(.str [107,48,107,110,105,110]),(.str [107,110,107,48,105,110]),(.str [107,110,107,110,105,110])])]
def g2:List D:=[(.int .u8 240),(.int .u8 240),(.int .u8 240),(.int .u8 240),(.int .u8 240),(.int .u8 240),(.int .u8 240),(.int .u8 240),(.int .u8 240),(.int .u8 240),(.int .u8 240),(.int .u8 240),(.int .u8 240),(.int .u8 240),(.int .u8 240),(.int .u8 240),(.int .u8 240),(.int .u8 240),(.int .u8 240),(.int .u8 240),(.int .u8 240),(.int .u8 240),(.int .u8 240),(.int .u8 240),(.int .u8 240),(.int .u8 240),(.int .u8 240),(.int .u8 240),(.int .u8 240),(.int .u8 240),(.int .u8 240),(.int .u8 240),(.int .u8 240),(.int .u8 240),(.int .u8 240),(.int .u8 240),(.int .u8 240),(.int .u8 240),(.int .u8 240),(.int .u8 240),(.int .u8 240),(.int .u8 240),(.int .u8 240),(.int .u8 240),(.int .u8 240),(.int .u8 240),(.int .u8 240),(.int .u8 240),(.int .u8 240),(.int .u8 240),(.int .u8 240),(.int .u8 240),(.int .u8 240),(.int .u8 240),(.int .u8 240),(.int .u8 240),(.int .u8 240),(.int .u8 240),(.int .u8 240),(.int .u8 240),(.int .u8 240),(.int .u8 240),(.int .u8 240),(.int .u8 240),(.int .u8 240),(.int .u8 240),(.int .u8 240),(.int .u8 240),(.int .u8 240),(.int .u8 240),(.int .u8 240),(.int .u8 240),(.int .u8 240),(.int .u8 240),(.int .u8 240),(.int .u8 240),(.int .u8 240),(.int .u8 240),(.int .u8 240),(.int .u8 240),(.int .u8 240),(.int .u8 240),(.int .u8 240),(.int .u8 240),(.int .u8 240),(.int .u8 240),(.int .u8 240),(.int .u8 240),(.int .u8 240),(.int .u8 240),(.int .u8 240),(.int .u8 240),(.int .u8 240),(.int .u8 240),(.int .u8 240),(.int .u8 240),(.int .u8 240),(.int .u8 240),(.int .u8 240),(.int .u8 240),(.int .u8 240),(.int .u8 240),(.int .u8 240),(.int .u8 240),(.int .u8 240),(.int .u8 240),(.int .u8 240),(.int .u8 240),(.int .u8 240),(.int .u8 240),(.int .u8 240),(.int .u8 240),(.int .u8 240),(.int .u8 240),(.int .u8 240),(.int .u8 240),(.int .u8 240),(.int .u8 240),(.int .u8 240),(.int .u8 240),(.int .u8 240),(.int .u8 240),(.int .u8 240),(.int .u8 240),(.int .u8 240),(.int .u8 240),(.int .u8 240),(.int .u8 240),(.int .u8 241),(.int .u8 241),(.int .u8 241),(.int .u8 241),(.int .u8 241),(.int .u8 241),(.int .u8 241),(.int .u8 241),(.int .u8 241),(.int .u8 241),(.int .u8 241),(.int .u8 241),(.int .u8 241),(.int .u8 241),(.int .u8 241),(.int .u8 241),(.int .u8 241),(.int .u8 241),(.int .u8 241),(.int .u8 241),(.int .u8 241),(.int .u8 241),(.int .u8 241),(.int .u8 241),(.int .u8 241),(.int .u8 241),(.int .u8 241),(.int .u8 241),(.int .u8 241),(.int .u8 241),(.int .u8 241),(.int .u8 241),(.int .u8 241),(.int .u8 241),(.int .u8 241),(.int .u8 241),(.int .u8 241),(.int .u8 241),(.int .u8 241),(.int .u8 241),(.int .u8 241),(.int .u8 241),(.int .u8 241),(.int .u8 241),(.int .u8 241),(.int .u8 241),(.int .u8 241),(.int .u8 241),(.int .u8 241),(.int .u8 241),(.int .u8 241),(.int .u8 241),(.int .u8 241),(.int .u8 241),(.int .u8 241),(.int .u8 241),(.int .u8 241),(.int .u8 241),(.int .u8 241),(.int .u8 241),(.int .u8 241),(.int .u8 241),(.int .u8 241),(.int .u8 241),(.int .u8 241),(.int .u8 241),(.int .u8 2),(.int .u8 2),(.int .u8 2),(.int .u8 2),(.int .u8 2),(.int .u8 2),(.int .u8 2),(.int .u8 2),(.int .u8 2),(.int .u8 2),(.int .u8 2),(.int .u8 2),(.int .u8 2),(.int .u8 2),(.int .u8 2),(.int .u8 2),(.int .u8 2),(.int .u8 2),(.int .u8 2),(.int .u8 2),(.int .u8 2),(.int .u8 2),(.int .u8 2),(.int .u8 2),(.int .u8 2),(.int .u8 2),(.int .u8 2),(.int .u8 2),(.int .u8 2),(.int .u8 2),(.int .u8 19),(.int .u8 3),(.int .u8 3),(.int .u8 3),(.int .u8 3),(.int .u8 3),(.int .u8 3),(.int .u8 3),(.int .u8 3),(.int .u8 3),(.int .u8 3),(.int .u8 3),(.int .u8 3),(.int .u8 35),(.int .u8 3),(.int .u8 3),(.int .u8 52),(.int .u8 4),(.int .u8 4),(.int .u8 4),(.int .u8 68),(.int .u8 241),(.int .u8 241),(.int .u8 241),(.int .u8 241),(.int .u8 241),(.int .u8 241),(.int .u8 241),(.int .u8 241),(.int .u8 241),(.int .u8 241),(.int .u8 241)]
def GG:List (Nat×List D):=[(0,g0),(1,g1),(2,g2),(3,g3)]
def ML:List (Nat×String×Nat):=[]
def XX:List (Nat×(List D→St→Nat→FR)):=[(45,spSort 46),(158,oM)]
def KT:List (Nat×List (List D×D)):=[(239,[([.str abc],.tup [.agg cells,.bool true])]),(12,[([],.bool true)])]
def BX:Cx:=⟨TT.get,GG,mGet ML,kGet KT,lget XX⟩
def KK:Nat:=1180591620717411303424
def MM:Nat:=4096
def mo:Nat:=8192
def ms(f:Nat):Bool:=Nat.testBit mo f
def cl(n:Nat):Nat→List D→Option (D×Bool):=wev ms KK MM (lw BX ps ms KK MM n)
def cxn(n:Nat):Cx:=lw BX ps ms KK MM n
def fn(n j:Nat):CL:=(zN (lw BX ps ms KK MM n) KK j).fn
def dfn(n j:Nat):Nat→List D→dS→St→Nat→DR:=(zN (lw BX ps ms KK MM n) KK j).df
theorem aF{f:Nat}(hp:ps f=true)(n j:Nat)(args:List D)(s:St)(c:Nat):fn (n+1) (j+1) (.fn f) args s c=pcall (cl n f) args s c:=wcall_pure hp n j args s c
theorem iN{f:Nat}{A:AF}(hp:ps f=false)(hX:BX.X f=none)(hK:BX.K f=[])(hT:BX.T f=some A)(n j:Nat)(args:List D)(s:St)(c:Nat)(hl:Nat.beq args.length A.np=true):
  fn n (j+1) (.fn f) args s c=zbody (dfn n j) A (zC A.body (cxn n) (fn n j) KK (start args s c)):=wcall_in hp hX hK hT n j args s c hl
theorem fn_known{f:Nat}{l:List (List D×D)}{p:List D×D}(hp:ps f=false)(hX:BX.X f=none)(hK:BX.K f=p::l){args fa:List D}{d:D}{s:St}(hf:args.mapM (fr 20 s)=some fa)(hl:zlook fa (p::l)=some d)(n j:Nat)(c:Nat):
  fn n (j+1) (.fn f) args s c = .ok (.ret d) s c:=wcall_known hp hX hK hf hl n j c
theorem cK{f:Nat}{A:AF}(hT:BX.T f=some A)(n:Nat)(args:List D)(hl:Nat.beq args.length A.np=true)(hm:ms f=false:=by rfl):
  cl n f args=pout (zbody (dfn n MM) A (zC A.body (cxn n) (fn n 4096) KK (start args st0 0))):=wev_run hT hm n args hl
theorem pW{f:Nat}{A:AF}(hT:BX.T f=some A)(hm:ms f=true)(n:Nat)(args:List D)(hl:Nat.beq args.length A.np=true){p:D×Bool}
  (h:∀r∈bC (cxn n) (fn n 4096) KK A.body (start args st0 0),pout (zbody (dfn n MM) A r)=some p):cl n f args=some p:=wev_orders hT hm n args hl h
theorem fn_spec{f:Nat}{g:List D→St→Nat→FR}(hp:ps f=false)(hX:BX.X f=some g)(n j:Nat)(args:List D)(s:St)(c:Nat):fn n (j+1) (.fn f) args s c=g args s c:=wcall_spec hp hX n j args s c
theorem fQ{n:Nat}(h:n<9223372036854775807):n<KK:=Nat.lt_trans h (by decide)
end
end Zv
namespace Zv
open Go
theorem vY{k:IntKind}{x:Nat}(h:x≤hiK k):k.wrap (x:Int)=(x:Int):=by
 rw[←kH];exact kW (by omega) (by omega)
theorem uJ{op:BinOp}(k:IntKind)(x y:Int)(h:op = .and∨op = .or∨op = .xor∨op = .andNot):jY op (.int k x) (.int k y)=xU op k x y:=by
 rcases h with rfl|rfl|rfl|rfl<;>simp[jY,intD]
theorem iG{x y:Nat}(hx:x<256)(hy:y<256):jY .and (.int .u8 (x:Int)) (.int .u8 (y:Int))=some (.int .u8 ((x&&&y:Nat):Int)):=by
 have h:x&&&y<256:=Nat.lt_of_le_of_lt Nat.and_le_left hx;rw[uJ _ _ _ (.inl rfl)];simp only[xU,BitVec.ofInt_natCast,BitVec.toNat_and,BitVec.toNat_ofNat];rw[Nat.mod_eq_of_lt (show x<2 ^ IntKind.bits .u8 from hx),Nat.mod_eq_of_lt (show y<2 ^ IntKind.bits .u8 from hy),vY (show _≤255 by omega)]
theorem b_or_u8{x y:Nat}(hx:x<256)(hy:y<256):jY .or (.int .u8 (x:Int)) (.int .u8 (y:Int))=some (.int .u8 ((x ||| y:Nat):Int)):=by
 have h:x ||| y<256:=Nat.or_lt_two_pow (n:=8) hx hy;rw[uJ _ _ _ (.inr (.inl rfl))];simp only[xU,BitVec.ofInt_natCast,BitVec.toNat_or,BitVec.toNat_ofNat];rw[Nat.mod_eq_of_lt (show x<2 ^ IntKind.bits .u8 from hx),Nat.mod_eq_of_lt (show y<2 ^ IntKind.bits .u8 from hy),vY (show _≤255 by omega)]
theorem fdiv_nat(x y:Nat):Int.fdiv (x:Int) (y:Int)=((x / y:Nat):Int):=Int.fdiv_eq_ediv_of_nonneg _ (by omega)
theorem shr_small{x:Nat}(b w:Nat)(hx:x<2 ^ w):x / 2 ^ (min b w)=x >>> b:=by
 rw[Nat.shiftRight_eq_div_pow];by_cases h:b≤w
 ·rw[Nat.min_eq_left h]
 ·rw[Nat.min_eq_right (by omega),Nat.div_eq_of_lt hx,Nat.div_eq_of_lt]
  exact bY hx (Nat.pow_le_pow_right (by omega) (by omega))
theorem binD_shr(k j:IntKind)(x y:Int):jY .shr (.int k x) (.int j y)=shD .shr k x y:=rfl
theorem binD_shl(k j:IntKind)(x y:Int):jY .shl (.int k x) (.int j y)=shD .shl k x y:=rfl
theorem gH{x:Nat}(b:Nat)(hx:x<256){j:IntKind}:jY .shr (.int .u8 (x:Int)) (.int j (b:Int))=some (.int .u8 ((x >>> b:Nat):Int)):=by
 rw[binD_shr];simp only[shD];rw[aD (by omega),cU,show((2:Int) ^ (min b (IntKind.bits .u8)))=((2 ^ (min b 8):Nat):Int) by rw[Int.natCast_pow];rfl,fdiv_nat,shr_small b 8 hx]
theorem bit_eq(x b:Nat):(x >>> b)&&&1=if x.testBit b then 1 else 0:=by
 rw[Nat.and_comm,Nat.testBit];have:1&&&x >>> b=(x >>> b) % 2:=by rw[Nat.and_comm,Nat.and_one_is_mod]
 rw[this];have h2:(x >>> b) % 2<2:=Nat.mod_lt _ (by omega)
 have h3:(x >>> b) % 2=0∨(x >>> b) % 2=1:=by omega
 rcases h3 with h|h<;>simp[h]
theorem shr_lt{x w:Nat}(b:Nat)(h:x<w):x >>> b<w:=Nat.lt_of_le_of_lt (Nat.shiftRight_le x b) h
def bitN(x b:Nat):Nat:=if x.testBit b then 1 else 0
theorem gV{x:Nat}(b:Nat)(hx:x<256):jY .and (.int .u8 ((x >>> b:Nat):Int)) (.int .u8 1)=some (.int .u8 ((bitN x b:Nat):Int)):=by
 rw[show(1:Int)=((1:Nat):Int) from rfl,iG (shr_lt b hx) (by omega),bit_eq];rfl
theorem oI(x b:Nat):decide (((bitN x b:Nat):Int)=1)=x.testBit b:=by unfold bitN;cases x.testBit b<;>rfl
theorem pO(x b:Nat):decide (((bitN x b:Nat):Int)=0) = !x.testBit b:=by unfold bitN;cases x.testBit b<;>rfl
theorem vA{i:Nat}(h:i<8):2 ^ i<256:=Nat.pow_lt_pow_right (a:=2) (m:=i) (n:=8) (by omega) h
theorem b_shl_bit{x b i:Nat}(hi:i<8){j:IntKind}:jY .shl (.int .u8 ((bitN x b:Nat):Int)) (.int j (i:Int))=some (.int .u8 ((if x.testBit b then 2 ^ i else 0:Nat):Int)):=by
 rw[binD_shl];simp only[shD];rw[aD (by omega),cU,show IntKind.bits .u8=8 from rfl,Nat.min_eq_left (by omega)]
 have h2:=vA hi;unfold bitN;cases x.testBit b
 ·simp only[cN,eV,Int.natCast_zero,Int.zero_mul];rfl
 ·simp only[if_true];rw[show((1:Nat):Int)*2 ^ i=((2 ^ i:Nat):Int) by rw[Int.natCast_pow];simp]
  generalize 2 ^ i=q at h2 ⊢;rw[kW (by simp only[loK];omega) (by simp only[hiK];omega)]
/-! The first place that says something. -/
def scan{β:Type}(p:Nat→Option β)(z:β):Nat→Nat→β
 | 0,_=>z
 | k+1,i=>match p i with
  | some r=>r
  | none=>scan p z k (i+1)
theorem scan_none{β:Type}{p:Nat→Option β}{z:β}:∀{k i:Nat},(∀j,i≤j→j<i+k→p j=none)→scan p z k i=z
 | 0,i,h=>rfl
 | k+1,i,h=>by
  simp only[scan,h i (aJ i) (by omega)]
  exact scan_none fun j h1 h2=>h j (by omega) (by omega)
theorem scan_first{β:Type}{p:Nat→Option β}{z r:β}:∀{k i m:Nat},i≤m→m<i+k→p m=some r→(∀j,i≤j→j<m→p j=none)→scan p z k i=r
 | 0,i,m,h1,h2,hm,h=>by omega
 | k+1,i,m,h1,h2,hm,h=>by
  by_cases e:i=m
  ·subst e;simp only[scan,hm]
  ·simp only[scan,h i (aJ i) (by omega)]
   exact scan_first (by omega) (by omega) hm fun j h3 h4=>h j (by omega) h4
theorem eR{β:Type}(p:Nat→Option β)(z:β):∀(k i:Nat),((∀j,i≤j→j<i+k→p j=none)∧scan p z k i=z) ∨
  ∃m r,i≤m∧m<i+k∧p m=some r∧(∀j,i≤j→j<m→p j=none)∧scan p z k i=r
 | 0,i=>.inl ⟨fun j h1 h2=>by omega,rfl⟩
 | k+1,i=>by
  cases hp:p i with
  | some r=>exact .inr ⟨i,r,aJ i,by omega,hp,fun j h1 h2=>by omega,by simp only[scan,hp]⟩
  | none=>
   rcases eR p z k (i+1) with⟨h1,h2⟩|⟨m,r,h1,h2,h3,h4,h5⟩
   ·refine .inl ⟨fun j h3 h4=>?_,by simp only[scan,hp,h2]⟩
    by_cases e:i=j
    ·rw[←e];exact hp
    ·exact h1 j (by omega) (by omega)
   ·refine .inr ⟨m,r,by omega,by omega,h3,fun j h6 h7=>?_,by simp only[scan,hp,h5]⟩
    by_cases e:i=j
    ·rw[←e];exact hp
    ·exact h4 j (by omega) (by omega)
theorem qX{β:Type}{p q:Nat→Option β}{z:β}:∀{k i:Nat},(∀j,i≤j→j<i+k→p j=q j)→scan p z k i=scan q z k i
 | 0,i,h=>rfl
 | k+1,i,h=>by
  simp only[scan,h i (aJ i) (by omega)]
  rw[qX (k:=k) (i:=i+1) fun j h1 h2=>h j (by omega) (by omega)]
theorem fZ{β:Type}{p:Nat→Option β}{z r:β}{n m:Nat}(h:m<n)(hm:p m=some r)(hb:∀j,j<m→p j=none):scan p z n 0=r:=scan_first (dK m) (by omega) hm fun j _ h=>hb j h
theorem gU{β:Type}{p:Nat→Option β}{z:β}{n:Nat}(hb:∀j,j<n→p j=none):scan p z n 0=z:=scan_none fun j _ h=>hb j (by omega)
theorem eH{β:Type}{p:Nat→Option β}{i:Nat}(h:∀j,j<i→p j=none)(hi:p i=none):∀j,j<i+1→p j=none:=fun j hj=>by
 rcases cY.1 hj with h1|rfl
 ·exact h j h1
 ·exact hi
end Zv
