/- The operations of the model do what the abstract ones say: new blocks, stores, appends, copies. Conditions: none. -/
import Derived.Test.YtnpoohbeicakkaaGreatDoorZAC
set_option linter.unusedSimpArgs false
set_option linter.unusedVariables false
namespace Zv
open Go
section
variable {E:Env} {M0:Nat→Prop} {w0:World} {N:Nat} {μ:Mu} {M:Nat→Prop} {a:Act} {w:World} {x:AS}
variable {e t:TypeId}
theorem new_fix(h:Rel E M0 w0 N μ a w x){cs:List D}{vs:Array Value}(hr:bI (Mm M0 μ) w μ cs vs.toList){fz:Nat×Nat} 
  (ht:Thaw vs.size fz) {ty:Nat} (hty:∀k,ty=k+1→e=k) {w':World} (hw:w'.heap=w.heap.push (.cells vs e fz)) (he:vJ w w':=by exact⟨rfl,rfl⟩) :
  ∃μ',Rel E M0 w0 N μ' a w' (x.add (.fix ty cs))∧Ext (Mm M0 μ) w (Mm M0 μ') w'∧μ' x.c=some ⟨some w.heap.size,cs.length⟩∧gJ μ μ'∧Fr x.c x.s μ w (x.add (.fix ty cs)).c (x.add (.fix ty cs)).s μ' w':=by
 have Ac:=h.free_le (aK _) (some ⟨some w.heap.size,cs.length⟩);obtain⟨hx,Bk,hf⟩:=h.fresh x.c (aK _) (.fix ty cs) (.cells vs e fz) cs.length (x':=x.add (.fix ty cs)) hw (fun _=>rfl) (fun n=>aZ _ _ _ _) rfl rfl (fun hx hM=>
  ⟨⟨some w.heap.size,cs.length⟩,w.heap.size,vs,e,fz,by simp[eD],rfl,rfl,hM,by rw[hw];simp,ht,bI.mono hx _ _ Ac hr,hty⟩) he
 grind [eD]
theorem new_grow(h:Rel E M0 w0 N μ a w x){cs:List D}{vs:Array Value}(zU:cs.length≤vs.size)(hr:bI (Mm M0 μ) w μ cs (vs.toList.take cs.length)){fz:Nat×Nat} 
  (ht:Thaw vs.size fz) {ty:Nat} (hty:∀k,ty=k+1→e=k) {w':World} (hw:w'.heap=w.heap.push (.cells vs e fz)) (he:vJ w w':=by exact⟨rfl,rfl⟩) :
  ∃μ',Rel E M0 w0 N μ' a w' (x.add (.grow ty cs))∧Ext (Mm M0 μ) w (Mm M0 μ') w'∧μ' x.c=some ⟨some w.heap.size,vs.size⟩∧gJ μ μ'∧Fr x.c x.s μ w (x.add (.grow ty cs)).c (x.add (.grow ty cs)).s μ' w':=by
 have Ac:=h.free_le (aK _) (some ⟨some w.heap.size,vs.size⟩);obtain⟨hx,Bk,hf⟩:=h.fresh x.c (aK _) (.grow ty cs) (.cells vs e fz) vs.size (x':=x.add (.grow ty cs)) hw (fun _=>rfl) (fun n=>aZ _ _ _ _) rfl rfl (fun hx hM=>
  ⟨⟨some w.heap.size,vs.size⟩,by simp[eD],.inr ⟨w.heap.size,vs,e,fz,rfl,hM,by rw[hw];simp,ht,rfl,zU,bI.mono hx _ _ Ac hr,hty⟩⟩) he
 grind [eD]
theorem thaw0(n:Nat):Thaw n (0,0):=fun o _ h=>by omega
theorem op_new(h:Rel E M0 w0 N μ a w x){ar:Arg}{v:Value}(hv:aY (Mm M0 μ) w μ (ar.ev E.G x.t) v){d:D}{x':AS} 
  (hs:step E.G (.new (e+1) ar) x=some (d,x')) {s:Sem Value} (zV:s.run E.P w = .ok (.pointer (some ⟨w.heap.size,0,none⟩)) { w with heap:=w.heap.push (.cells v.cells e) }) :
  gd E M0 w0 N μ w x a d x' w (do pure (.value (←s))):=by
 simp only[stq]at hs;split at hs
 ·rename_i cs Fc;cases hs;obtain⟨μ',hr,hx,hm,Ac,hf⟩:=new_fix h (mF Fc hv) (thaw0 _) (ty:=e+1) (fun k hk=>by grind) (w':={ w with heap:=w.heap.push (.cells v.cells e) }) rfl
  refine⟨_,_,μ',.inl (bU zV),?_,hr,hf⟩
  grind [aY]
 ·cases hs
/-! Stores. -/
theorem kE(P:Program){b:Nat}{e:TypeId}{fz:Nat×Nat}(o:Nat):∀(us:List Value) (i:Nat) (w:World) (Ec:Array Value),w.heap[b]?=some (.cells Ec e fz)→Thaw Ec.size fz →
  o+i+us.length≤Ec.size→(∀v∈us,v.oneCell'=true) →
  ∃w' Fi,(storeCells ⟨b,o,none⟩ us i).run P w = .ok () w'∧w'.heap.size=w.heap.size∧(∀k,k≠b→w'.heap[k]?=w.heap[k]?)∧w'.heap[b]?=some (.cells Fi e fz)∧Fi.size=Ec.size ∧
   Fi.toList=fJ Ec.toList (o+i) us∧vJ w w'
 | [],i,w,Ec,hb,_,_,_=>⟨w,Ec,by simp[storeCells],rfl,fun _ _=>rfl,hb,rfl,rfl,rfl,rfl⟩
 | u::us,i,w,Ec,hb,ht,hl,h1=>by
  simp only[aO]at hl;have Ir:∃c,w.cell? ⟨b,o+i,none⟩=some c:=by
   refine⟨Ec[o+i]'(by omega),?_⟩
   simp only[World.cell?,hb,Option.isSome_none,cT,iV];exact Array.getElem?_eq_getElem (by omega)
  obtain⟨c,hc⟩:=Ir;have Bi:w.frozen? ⟨b,o+i,none⟩=false:=by
   simp only[World.frozen?,hb];have:=ht (o+i) (by omega)
   simp only[Bool.and_eq_false_iff,cD];by_cases h2:fz.1≤o+i
   ·exact .inr fun h3=>this ⟨h2,h3⟩
   ·exact .inl h2
  have Bh:(store ⟨b,o+i,none⟩ u).run P w = .ok () (w.setCell ⟨b,o+i,none⟩ u):=by
   rw[run_store P w _ u .plain (h1 u (by simp)),hc]
   simp[Bi]
  have Ad:b<w.heap.size:=by
   rcases Nat.lt_or_ge b w.heap.size with h|h
   ·exact h
   ·rw[Array.getElem?_eq_none h]at hb;cases hb
  have Cm:(w.setCell ⟨b,o+i,none⟩ u).heap[b]?=some (.cells (Ec.setIfInBounds (o+i) u) e fz):=by
   simp only[World.setCell,Array.getElem?_modify,if_true,hb,bR,Option.isSome_none,cT,iV]
  obtain⟨w',Fi,zV,Ax,Az,hs3,hs4,hs5,hs6⟩:=kE P o us (i+1) (w.setCell ⟨b,o+i,none⟩ u) (Ec.setIfInBounds (o+i) u) Cm (by simpa using ht) (by simp;omega)
   (fun v hv=>h1 v (by simp[hv]))
  refine⟨w',Fi,?_,?_,fun k hk=>?_,hs3,by simpa using hs4,?_,hs6⟩
  ·simp only[storeCells,Addr.add_lit,bJ,Bh,aR,zV]
  ·rw[Ax];simp[World.setCell]
  ·rw[Az k hk];simp only[World.setCell,Array.getElem?_modify];rw[aG (fun e=>hk e.symm)]
  ·rw[hs5];simp[fJ,Nat.add_assoc]
theorem oneCell_of{d:D}{v:Value}(hd:eG d=false)(h:aY (Mm M0 μ) w μ d v):v.oneCell'=true:=by
 cases d<;>simp only[eG,reduceCtorEq]at hd
 all_goals simp only[aY]at h
 all_goals first
  | subst h
  | (obtain⟨_,rfl,_⟩:=h)
  | (obtain⟨_,_,rfl,_⟩:=h)
  | (obtain⟨_,_,_,rfl,_⟩:=h)
  | (obtain⟨_,_,_,_,rfl⟩:=h)
  | (obtain⟨_,_,_,_,rfl,_⟩:=h)
 all_goals rfl
theorem tL:∀{ds:List D} {us:List Value},ds.any eG=false→bI (Mm M0 μ) w μ ds us→∀v∈us,v.oneCell'=true
 | [],us,_,h=>by grind [bI]
 | d::ds,us,hd,h=>by
  simp only[bI]at h;obtain⟨v,r,rfl,h1,h2⟩:=h;simp only[List.any_cons,Bool.or_eq_false_iff]at hd;intro u hu;rcases cH.1 hu with rfl|hu
  ·grind [oneCell_of]
  ·exact tL hd.2 h2 u hu
theorem rB{α:Type}:∀(us vs:List α) (off n:Nat),off+us.length≤n→(fJ vs off us).take n=fJ (vs.take n) off us
 | [],vs,off,n,_=>rfl
 | u::us,vs,off,n,h=>by
  simp only[aO]at h;simp only[fJ];rw[rB us _ _ n (by omega),List.take_set]
theorem qG(h:Rel E M0 w0 N μ a w x){nm off:Nat}{blk Bt:Blk}{ds:List D}(hg:sget x.s nm=some blk)(zZ:stB blk off ds=some Bt){l:Loc}{b:Nat}(hl:μ nm=some l)(Be:l.blk=some b) 
  {us:List Value} (hr:bI (Mm M0 μ) w μ ds us) :
  ∃w',(storeCells ⟨b,off,none⟩ us).run E.P w = .ok () w'∧Ext (Mm M0 μ) w (Mm M0 μ) w'∧Rel E M0 w0 N μ a w' { x with s:=sset x.s nm Bt }∧Fr x.c x.s μ w x.c (sset x.s nm Bt) μ w':=by
 unfold stB at zZ;have Lf:ds.any eG=false:=by
  cases Lf:ds.any eG
  ·rfl
  ·grind
 rw[Lf]at zZ;have Ih:=tL Lf hr;have zU:=hr.length;simp only[cO]at zZ;have Ol:∀n,sget (sset x.s nm Bt) n=if n=nm then some Bt else sget x.s n:=by
  intro n;rw[aU]
 have hB:=h.st nm blk l hl hg;have Bd:(sget x.s nm).isSome=true:=by rw[hg];rfl
 split at zZ
 ·rename_i ty cs;obtain⟨l',b',vs,e,fz,h1,h2,h3,h4,h5,h6,h7,h8⟩:=hB;rw[hl]at h1;cases h1;rw[Be]at h2;cases h2;cases Ac:Nat.ble (off+ds.length) cs.length<;>rw[Ac]at zZ
  ·cases zZ
  have Dm:=cU Ac;simp only[bG,aD]at zZ;subst zZ;have Bo:=h7.length;simp only[gZ]at Bo;obtain⟨w',Fi,zV,g1,g2,g3,g4,g5,ge⟩:=kE E.P off us 0 w vs h5 h6 (by omega) Ih
  obtain⟨hx,hR,hf⟩:=h.write nm (.fix ty (fJ cs off ds)) l b (x':={ x with s:=sset x.s nm (.fix ty (fJ cs off ds)) }) hl Be Bd g1 g2 (fun n=>rfl) Ol rfl rfl (fun hx=>
   ⟨l,b,Fi,e,fz,hl,Be,by grind [jA],h4,g3,by grind,by
    rw[g5,Nat.add_zero];exact bI.setAt off (bI.mono hx _ _ (gJ.refl _) h7) (bI.mono hx _ _ (gJ.refl _) hr),h8⟩) ge
  grind
 ·rename_i ty cs;obtain⟨l',h1,hh⟩:=hB;rw[hl]at h1;cases h1;rcases hh with⟨h2,_⟩|⟨b',vs,e,fz,h2,h4,h5,h6,h7,h8,h9,Kz⟩
  ·grind
  rw[Be]at h2;cases h2;cases Ac:Nat.ble (off+ds.length) cs.length<;>rw[Ac]at zZ
  ·cases zZ
  have Dm:=cU Ac;simp only[bG,aD]at zZ;subst zZ;obtain⟨w',Fi,zV,g1,g2,g3,g4,g5,ge⟩:=kE E.P off us 0 w vs h5 h6 (by omega) Ih
  obtain⟨hx,hR,hf⟩:=h.write nm (.grow ty (fJ cs off ds)) l b (x':={ x with s:=sset x.s nm (.grow ty (fJ cs off ds)) }) hl Be Bd g1 g2 (fun n=>rfl) Ol rfl rfl (fun hx=>
   ⟨l,hl,.inr ⟨b,Fi,e,fz,Be,h4,g3,by grind,by omega,by grind [jA],by
    rw[g5,Nat.add_zero,jA,rB _ _ _ _ (by omega)]
    exact bI.setAt off (bI.mono hx _ _ (gJ.refl _) h9) (bI.mono hx _ _ (gJ.refl _) hr),Kz⟩⟩) ge
  grind
 ·cases zZ
theorem op_st(h:Rel E M0 w0 N μ a w x){n:Nat}(Ae:iN E.P t=some n){o p:Operand}{ar pr:Arg}(h2:dI o=some ar)(h3:dI p=some pr){d:D}{x':AS} 
  (hs:step E.G (.st n ar pr) x=some (d,x')):gd E M0 w0 N μ w x a d x' w (do Instr.storeAt t (a.eval o) (a.eval p);pure .skip):=by
 have hv:=cW h h2;have hp:=cW h h3;simp only[stq]at hs;split at hs
 ·rename_i nm off he;rw[he]at hv;simp only[aY]at hv;obtain⟨l,b,h4,h5,hv⟩:=hv;simp only[aC,aB]at hs;obtain⟨blk,hg,ds,hds,hs⟩:=hs;cases hl:Nat.beq ds.length n<;>rw[hl]at hs
  ·cases hs
  have Dx:=bH hl;simp only[bG,aT]at hs;obtain⟨Bt,zZ,he⟩:=hs;cases he;have Dc:=mF hds hp;obtain⟨w',zV,hx,hR,hf⟩:=qG h hg zZ h4 h5 Dc;have zU:=Dc.length;simp only[gZ]at zU;refine⟨undef,w',μ,.inr ⟨?_,rfl⟩,by simp only[aY],hR,hf⟩
  have Kl:¬(a.eval p).cells.size≠n:=by omega
  simp only[Instr.storeAt,hv,Instr.sureAddr,bJ,bV,aR,storeVar,eB Ae,Kl,iV,zV]
 ·cases hs
/-! Literals of slices; 'make'. -/
theorem rep_get{α:Type}(z:List α):∀(n i:Nat),i<n*z.length→((List.replicate n z).flatten)[i]?=z[i % z.length]?
 | 0,i,h=>by simp at h
 | n+1,i,h=>by
  rw[List.replicate_succ,dO];by_cases hi:i<z.length
  ·rw[List.getElem?_append_left hi,Nat.mod_eq_of_lt hi]
  ·rw[List.getElem?_append_right (by omega),rep_get z n (i-z.length) (by grind)]
   grind [Nat.mod_eq_sub_mod]
theorem wX{zs:List D}{z:Array Value}(hr:bI (Mm M0 μ) w μ zs z.toList)(n k:Nat)(hk:zs.length=k)(c:Nat)(hc:c=n*k):
  bI (Mm M0 μ) w μ (rep n zs) ((Array.range c).map fun i=>z[i % z.size]!).toList:=by
 have hl:=hr.length;simp only[gZ]at hl;subst hc;subst hk;refine bI.mk (by simp[rep]) fun i d v hd hv=>?_
 have hi:i<n*zs.length:=by
  rw[dE]at hd;obtain⟨h,_⟩:=hd;simpa[rep]using h
 unfold rep at hd;rw[rep_get zs n i hi]at hd;have Jm:0<zs.length:=by
  rcases Nat.eq_zero_or_pos zs.length with h0|h0
  ·rw[h0]at hi;simp at hi
  ·exact h0
 have hm:i % zs.length<z.size:=by rw[hl];exact Nat.mod_lt _ Jm
 have Cu:v=z[i % zs.length]'hm:=by
  simp only[Array.toList_map,List.getElem?_map,aT]at hv;obtain⟨j,hj,rfl⟩:=hv;have:j=i:=by
   have Ml:(List.range (n*zs.length))[i]?=some j:=by simpa using hj
   rw[dE]at Ml;obtain⟨_,Ml⟩:=Ml;simpa using Ml.symm
  subst this;rw[getElem!_pos z (j % z.size) (by rw[hl];rw[hl]at hm;exact hm)]
  simp only[hl]
 refine hr.at hd ?_;rw[Cu];simp[hm]
theorem op_bsl(h:Rel E M0 w0 N μ a w x){len s:Nat}{ps:Array (Nat×Operand)}{zd:D}{zc:List D}(hu:E.P.underlying t=some (.slice e))(Ae:iN E.P e=some s) 
  (hz:iX E.P e=some zd) (Ri:zd.cells?=some zc) (Ac:Nat.ble (len*s) 16777216=true) (Ji:Nat.beq zc.length s=true) {l:List (Nat×Nat×Arg)}
  (hl:ps.toList.mapM (fun(p:Nat×Operand)=>do
    let a ←dI p.2
    some (p.1*s,s,a))=some l) {d:D} {x':AS}
  (hs:step E.G (.bsl len s (xT len s zc) l) x=some (d,x')):gd E M0 w0 N μ w x a d x' w (do pure (.value (←Instr.buildSlice t len (ps.map fun(i,x)=>(i,a.eval x))))):=by
 simp only[stq,aC,aB,aT]at hs;obtain⟨zR,ho,he⟩:=hs;cases he;have Jh:=bH Ji;have Dm:=cU Ac;simp only[iX,aC,aB]at hz;obtain⟨i,hi,v,hv,hz⟩:=hz;have Gc:=mF Ri (kS (M0:=M0) (w:=w) (μ:=μ) _ _ _ hz)
 let zs:Array Value:=if len*s=0 then #[]else v.cells
 have Ho:bI (Mm M0 μ) w μ (xT len s zc) ((Array.range (len*s)).map fun i=>zs[i % zs.size]!).toList:=by
  unfold xT;by_cases h0:len*s=0
  ·simp_all [bI.nil]
  ·grind [jH,wX]
 obtain⟨Cn,hfill,hr⟩:=uB h (fun i=>some (i*s,s)) _ (fun p q hq=>by
  grind [aC,aB,aD]) ps.toList l hl _ zR _ Ho ho
 obtain⟨μ',hR,hx,hm,Ik,hf⟩:=new_fix h hr (thaw0 _) (e:=e) (ty:=0) (fun k hk=>by omega) (w':={ w with heap:=w.heap.push (.cells Cn e) }) rfl
 have Kq:zR.length=len*s:=by
  have Er:∀(l:List (Nat×Nat×D)) (cs zR:List D),place cs l=some zR→zR.length=cs.length:=by
   intro l
   induction l with
   | nil=>grind [place]
   | cons p l ih=>
    grind [place,Nat.beq,Nat.ble,jA]
  rw[Er _ _ _ ho];unfold xT;by_cases h0:len*s=0
  ·rw[h0];simp
  ·simp_all [jH,rep]
 refine⟨.slice (some ⟨w.heap.size,0,none⟩) len len,_,μ',.inl (bU ?_),?_,hR,hf⟩
 ·have hp:(ps.map fun(p:Nat×Operand)=>(p.1,a.eval p.2)).toList=ps.toList.map fun p=>(p.1,a.eval p.2):=by simp
  have Sh:¬len*s>2 ^ 24:=by omega
  simp only[Instr.buildSlice,bJ,bL hu,aR,eB Ae,Sh,iV];rw[show(ps.map fun(x:Nat×Operand)=>match x with|(i,x)=>(i,a.eval x))=ps.map fun p=>(p.1,a.eval p.2) from rfl,hp]
  by_cases h0:len*s=0
  ·have Hk:zs = #[]:=aS h0
   simp_all [bJ,bV,aR,newRow]
  ·have Hk:zs=v.cells:=aG h0
   simp_all [bJ,bV,aR,zeroValue,eZ,newRow]
 grind [aY]
theorem op_mks(h:Rel E M0 w0 N μ a w x){i:TypeInfo}{zd:D}{zc:List D}(hu:E.P.underlying t=some (.slice e))(hi:E.P.info? e=some i) 
  (hz:iX E.P e=some zd) (Ri:zd.cells?=some zc) (Ji:Nat.beq zc.length i.size=true) {o p:Operand} {lr cr:Arg} (h2:dI o=some lr) (h3:dI p=some cr) {d:D} {x':AS}
  (hs:step E.G (.mks i.size i.bytes zc lr cr) x=some (d,x')):gd E M0 w0 N μ w x a d x' w (do pure (.value (←Instr.makeSlice t (a.eval o) (a.eval p)))):=by
 have hv:=cW h h2;have hp:=cW h h3;simp only[stq]at hs;split at hs
 ·rename_i k l j c Ms Ip;rw[Ms]at hv;rw[Ip]at hp;simp only[aY]at hv hp;split at hs
  ·rename_i zT;obtain⟨c1,c2,c3,c4⟩:=zT;cases hs;have Jh:=bH Ji;simp only[iX,aC,aB]at hz;obtain⟨i',Bs,v,Cu,hz⟩:=hz;rw[hi]at Bs;cases Bs;have Gc:=mF Ri (kS (M0:=M0) (w:=w) (μ:=μ) _ _ _ hz);have wl:IntKind.i64.wrap l=l:=by rw[←kX];exact kW (by omega) (by grind [hiK])
   have wc:IntKind.i64.wrap c=c:=by rw[←kX];exact kW (by omega) (by grind [hiK])
   let n:=c.toNat*i.size
   let zs:Array Value:=if n=0 then #[]else v.cells
   have Ho:bI (Mm M0 μ) w μ (rep c.toNat zc) ((Array.range n).map fun k=>zs[k % zs.size]!).toList:=by
    by_cases h0:n=0
    ·have e0:(rep c.toNat zc)=[]:=by
      apply eM;simp[rep,Jh];simpa[n]using h0
     grind [bI.nil]
    ·grind [wX]
   obtain⟨μ',hR,hx,hm,Ik,hf⟩:=new_fix h Ho (thaw0 _) (e:=e) (ty:=0) (fun k hk=>by omega) (w':={ w with heap:=w.heap.push (.cells ((Array.range n).map fun k=>zs[k % zs.size]!) e) }) rfl
   refine⟨.slice (some ⟨w.heap.size,0,none⟩) l.toNat c.toNat,_,μ',.inl (bU ?_),?_,hR,hf⟩
   ·have Dl:((decide (c<0)||decide ((i.bytes:Int)*c>2 ^ 48))||decide (l<0)||decide (l>c))=false:=by
     simp only[Bool.or_eq_false_iff,cD];refine⟨⟨⟨by omega,by omega⟩,by omega⟩,by omega⟩
    simp only[Instr.makeSlice,hv,hp,asInt,asIntOf,bJ,bL hu,aR,bV,eZ hi,wl,wc];rw[aG (by rw[Dl];simp)]
    simp only[bJ,aR,run_askRoom,eB (show iN E.P e=some i.size by simp[iN,hi]),bV]
    rw[show c.toNat*i.size=n from rfl]
    by_cases h0:n=0
    ·have Hk:zs = #[]:=aS h0
     simp_all [newRow]
    ·have Hk:zs=v.cells:=aG h0
     simp_all [newRow,zeroValue,eZ]
   ·simp only[aY];exact⟨_,_,hm,rfl,rfl,by omega,by simp[rep,Jh]⟩
  ·cases hs
 ·cases hs
end
section
variable {E:Env} {M0:Nat→Prop} {w0:World} {N:Nat} {μ:Mu} {M:Nat→Prop} {a:Act} {w:World} {x:AS}
variable {P:Program} {n len cap:Nat} {t u e:TypeId} {i:TypeInfo}
theorem mM{b o:Nat}{cs:List D}(hc:∀(i:Nat) (e:D),cs[i]?=some e→∃v',w.cell? ⟨b,o+i,none⟩=some v'∧aY (Mm M0 μ) w μ e v')(n:Nat)(hn:n≤cs.length):
  ∃Cn:Array Value,(loadCells ⟨b,o,none⟩ n).run P w = .ok Cn w∧bI (Mm M0 μ) w μ (cs.take n) Cn.toList:=by
 have Aa:∀j,j<n→∃v',w.cell? ⟨b,o+j,none⟩=some v'∧∀e,cs[j]?=some e→aY (Mm M0 μ) w μ e v':=by
  intro j hj;obtain⟨v',Cu,hr⟩:=hc j cs[j] (aI (by omega))
  refine⟨v',Cu,fun e he=>?_⟩
  rw[aI (by omega)]at he;cases he;exact hr
 let f:Nat→Value:=fun j=>(w.cell? ⟨b,o+j,none⟩).getD undef
 have zV:=run_loadCells (P:=P) w ⟨b,o,none⟩ n f (fun j hj=>by
  grind [Addr.add_lit])
 grind [bI.mk,aT,dE]
theorem uK(h:Rel E M0 w0 N μ a w x){nm:Nat}{blk:Blk}{cs:List D}(hs:sget x.s nm=some blk)(hb:eR blk=some cs){l:Loc}(hl:μ nm=some l){b:Nat}(Be:l.blk=some b)(off:Nat):
  ∀(i:Nat) (e:D),(cs.drop off)[i]?=some e→∃v',w.cell? ⟨b,off+i,none⟩=some v'∧aY (Mm M0 μ) w μ e v':=by
 grind [nL,bI.get,cell_in]
theorem mT{sz:Nat}{ad:Option Addr}(h0:n*sz=0)(w:World):(Builtin.firstCells sz n (.slice ad len cap)).run P w = .ok #[] w:=by
 cases ad<;>simp[Builtin.firstCells,loadCells,loadCellsFrom,h0]
theorem uU(h:Rel E M0 w0 N μ a w x){sz:Nat}{d:D}{cs:List D}{v:Value}(hs:cP x.s sz d=some (cs,n))(hv:aY (Mm M0 μ) w μ d v)(P:Program):
  (Builtin.lenOf v).run P w = .ok n w∧cs.length=n*sz∧∀k,k≤n→∃Cn:Array Value,(Builtin.firstCells sz k v).run P w = .ok Cn w∧bI (Mm M0 μ) w μ (cs.take (k*sz)) Cn.toList:=by
 cases d<;>simp only[cP,aD,eO,reduceCtorEq]at hs
 ·rename_i s;cases hz:Nat.beq sz 1<;>rw[hz]at hs
  ·cases hs
  have Gw:=bH hz;subst Gw;simp only[bG,aD,eO]at hs;obtain⟨rfl,rfl⟩:=hs;simp only[aY]at hv;subst hv;refine⟨by simp[Builtin.lenOf];rfl,by simp[mW],fun k hk=>⟨_,rfl,?_⟩⟩
  refine bI.mk ?_ fun i d v hd hv=>?_
  ·simp[mW,ByteArray.size,ByteArray.data_extract,Array.size_extract]
  ·simp only[mW,dS]at hd;rw[List.getElem?_take]at hd;split at hd
   ·rename_i hik;simp only[List.getElem?_map,aT]at hd;obtain⟨b,hb,rfl⟩:=hd
    grind [ByteArray.data_extract,Array.toList_extract,List.extract_eq_take_drop,aY]
   ·cases hd
 ·obtain⟨rfl,rfl⟩:=hs
  simp_all [aY,Builtin.lenOf,mT,bI.nil]
 ·rename_i ex len c;cases Ac:Nat.ble (len*sz) c.length<;>rw[Ac]at hs
  ·cases hs
  have Dm:=cU Ac;simp only[bG,aD,eO]at hs;obtain⟨rfl,rfl⟩:=hs;simp only[aY]at hv;obtain⟨ad,cap,rfl,h1,h2,h3⟩:=hv;refine⟨by simp[Builtin.lenOf],by simp;omega,fun k hk=>?_⟩
  by_cases h0:k*sz=0
  ·simp_all [mT,bI.nil]
  rcases h3 with h3|⟨b,o,rfl,h4,h5,h6⟩
  ·grind
  have Ek:k*sz≤len*sz:=Nat.mul_le_mul_right _ hk;obtain⟨Cn,zV,hr⟩:=mM (P:=P) (M0:=M0) (μ:=μ) (cs:=c) (b:=b) (o:=o) (w:=w) (fun i e hi=>by
   obtain⟨v',Cu,hr⟩:=iK.get i e h6 hi;exact⟨v',Cu,aY.mono (Ext.refl (Mm M0 μ) w) e v' (mu0_le μ) hr⟩) (k*sz) (by omega)
  grind [Builtin.firstCells,Nat.min_eq_left]
 ·rename_i nm off z len cap;simp only[aC,aB]at hs;obtain⟨blk,hg,c,hb,hs⟩:=hs;cases Ac:(Nat.beq z sz&&Nat.ble (off+len*sz) c.length)<;>rw[Ac]at hs
  ·cases hs
  simp only[bW]at Ac;have Gw:=bH Ac.1;have Dm:=cU Ac.2;subst Gw;simp only[bG,aD,eO]at hs;obtain⟨rfl,rfl⟩:=hs;simp only[aY]at hv;obtain⟨l,b,h1,h2,rfl,h3,h4⟩:=hv;refine⟨by simp[Builtin.lenOf],by simp;omega,fun k hk=>?_⟩
  have Ek:k*z≤len*z:=Nat.mul_le_mul_right _ hk;obtain⟨Cn,zV,hr⟩:=mM (P:=P) (cs:=c.drop off) (uK h hg hb h1 h2 off) (k*z) (by simp;omega)
  grind [Builtin.firstCells,Nat.min_eq_left]
 ·rename_i nm off z len;simp only[aC,aB]at hs;obtain⟨blk,hg,c,hb,hs⟩:=hs;cases Ac:(Nat.beq z sz&&Nat.ble (off+len*sz) c.length)<;>rw[Ac]at hs
  ·cases hs
  simp only[bW]at Ac;have Gw:=bH Ac.1;have Dm:=cU Ac.2;subst Gw;simp only[bG,aD,eO]at hs;obtain⟨rfl,rfl⟩:=hs;simp only[aY]at hv;obtain⟨⟨lb,lc⟩,cap,h1,rfl,h3,h4,h5⟩:=hv;refine⟨by simp[Builtin.lenOf],by simp;omega,fun k hk=>?_⟩
  have Ek:k*z≤len*z:=Nat.mul_le_mul_right _ hk;cases lb with
  | none=>
   simp_all [mT,bI.nil]
  | some b=>
   obtain⟨Cn,zV,hr⟩:=mM (P:=P) (cs:=c.drop off) (uK h hg hb h1 rfl off) (k*z) (by simp;omega)
   grind [Builtin.firstCells,Nat.min_eq_left]
theorem growBy_le(Ia:Nat):∀(r c:Nat),c≤2*Ia+768→Builtin.growBy Ia r c≤2*Ia+768
 | 0,c,h=>by grind [Builtin.growBy]
 | r+1,c,h=>by
  simp only[Builtin.growBy];split
  ·exact h
  ·exact growBy_le Ia r _ (by omega)
theorem nextslicecap_le{Ia:Nat}(h:cap<Ia):Builtin.nextslicecap Ia cap≤2*Ia+768:=by
 grind [Builtin.nextslicecap,growBy_le]
structure AppT (P:Program) (t u e:TypeId) (i:TypeInfo) (z:Value):Prop where
 tu:P.underlying t=some (.slice e)
 uu:(∃e',P.underlying u=some (.slice e'))∨P.underlying u=some .string
 ei:P.info? e=some i
 zv:i.zero=some z
 zs:z.cells.size=i.size
theorem kO{ty:TypeId}{z:Value}(ht:AppT P t u e i z){base:Option Addr}{y:Value}{w:World}(hn:(Builtin.lenOf y).run P w = .ok n w) 
  (Ac:len+n≤cap) {new:Array Value} (hf:(Builtin.firstCells i.size n y).run P w = .ok new w) :
  (Builtin.append_ #[t,u] ty #[.slice base len cap,y]).run P w =
   (do
     if let some a:=base then storeCells (a.add (len*i.size)) new.toList
     pure (.slice base (len+n) cap):Sem Value).run P w:=by
 have Ae:iN P e=some i.size:=by simp[iN,ht.ei]
 rcases ht.uu with⟨e',he⟩|he
 all_goals
  simp only[Builtin.append_,List.getElem?_toArray,aV,List.getElem?_cons_succ,bJ,bL ht.tu,aR,eB Ae,bL he,bV,cT,iV,hn,
   aW,if_true]
  rw[aS Ac];simp only[bJ,hf,aR];cases base<;>rfl
theorem rY{ty:TypeId}{z:Value}(ht:AppT P t u e i z){base:Option Addr}{y:Value}{w:World}(hn:(Builtin.lenOf y).run P w = .ok n w) 
  (Ac:cap<len+n) (Ca:room (len+n) i.bytes=true) {old new:Array Value}
  (ho:(Builtin.firstCells i.size len (.slice base len cap)).run P { w with drawn:=w.drawn+1 } = .ok old { w with drawn:=w.drawn+1 })
  (hf:(Builtin.firstCells i.size n y).run P { w with drawn:=w.drawn+1 } = .ok new { w with drawn:=w.drawn+1 }) :
  ∃c,len+n≤c∧(Builtin.append_ #[t,u] ty #[.slice base len cap,y]).run P w =
   .ok (.slice (some ⟨w.heap.size,0,none⟩) (len+n) c) { w with drawn:=w.drawn+1,heap:=w.heap.push (.cells (old++new++Builtin.zeroCells z.cells (c-(len+n))) e) }:=by
 have Ae:iN P e=some i.size:=by simp[iN,ht.ei]
 simp only[room,bW]at Ca;have r1:=cU Ca.1;have r2:=cU Ca.2;have h1:¬(((len+n:Nat):Int)>IntKind.i64.max∧i.bytes=0):=by
  simp only[IntKind.max_i64];omega
 have Xk:¬(((len+n:Nat):Int)>IntKind.i64.max∧(False∨i.bytes=0)):=by simpa using h1
 have h2:¬Builtin.nextslicecap (len+n) cap*i.bytes>2 ^ 48:=by
  have h3:=nextslicecap_le Ac;have h4:Builtin.nextslicecap (len+n) cap*i.bytes≤(2*(len+n)+768)*4096:=Nat.mul_le_mul h3 r2;omega
 refine⟨len+n+(w.tape w.drawn (.appendCap (len+n) cap e)) % (2 ^ 63-(len+n)),by omega,?_⟩
 rcases ht.uu with⟨e',he⟩|he
 all_goals
  simp only[Builtin.append_,List.getElem?_toArray,aV,List.getElem?_cons_succ,bJ,bL ht.tu,aR,eB Ae,bL he,bV,cT,iV,hn,
   aW,if_true,eZ ht.ei]
  rw[aG (by omega)]
  simp only[bJ,Sem.run_ite,eZ ht.ei,aR];rw[aG Xk,aG h2];simp only[bJ,run_choose,Question.forced,cT,iV,aR,Question.cut,run_askRoom,eZ ht.ei,ho,hf,zeroValue,ht.zv,bV,newRow,run_newObj]
theorem Rel.grown(h:Rel E M0 w0 N μ a w x)(m:Nat)(l:Loc)(b:Nat)(hl:μ m=some l)(Be:l.blk=some b)(Bd:(sget x.s m).isSome=true)(blk:Blk){w':World}{x':AS} 
  (Ae:w'.heap.size=w.heap.size) (Bc:∀k,k≠b→w'.heap[k]?=w.heap[k]?)
  (ht:∀n,tget x'.t n=tget x.t n) (hs:∀n,sget x'.s n=if n=x.c then some blk else if n=m then none else sget x.s n) (hc:x'.c=x.c+1) (hd:x'.d=x.d)
  (hB:Ext (Mm M0 μ) w (Mm M0 (eD μ x.c (some l))) w'→gJ μ (eD μ x.c (some l))→rV E.P (Mm M0 (eD μ x.c (some l))) w' (eD μ x.c (some l)) x.c blk) (he:vJ w w':=by exact⟨rfl,rfl⟩) :
  Ext (Mm M0 μ) w (Mm M0 (eD μ x.c (some l))) w'∧Rel E M0 w0 N (eD μ x.c (some l)) a w' x'∧Fr x.c x.s μ w x'.c x'.s (eD μ x.c (some l)) w':=by
 have hM:=h.isM hl Be;have Ac:=h.free_le (aK _) (some l);have Fv:∀b,b<w.heap.size→Nm (eD μ x.c (some l)) b→Nm μ b:=fun b' zQ ⟨k,l',Dx,Im⟩=>by
  by_cases hk:k=x.c
  ·simp only[eD,aS hk]at Dx;cases Dx;exact⟨m,l,hl,Im⟩
  ·simp only[eD,aG hk]at Dx;exact⟨k,l',Dx,Im⟩
 have hx:Ext (Mm M0 μ) w (Mm M0 (eD μ x.c (some l))) w':=ext_mu (by omega) (fun k _ hk=>Bc k fun e=>hk (e▸hM)) Ac Fv
 have hi:∀n,n≠x.c→(sget x'.s n).isSome=true→n≠m∧(sget x.s n).isSome=true:=fun n hn h1=>by
  grind
 have Sa:∀n,n≠x.c→eD μ x.c (some l) n=μ n:=fun n hn=>by simp[eD,hn]
 have Ez:eD μ x.c (some l) x.c=some l:=by simp[eD]
 refine⟨hx,{h with
  size:=by have:=h.size;omega
  old:=fun k hk=>by rw[Bc k fun e=>by have:=h.own m l b hl Be;omega];exact h.old k hk
  env:=⟨he.1.trans h.env.1,he.2.trans h.env.2⟩
  defers:=by rw[hd];exact iR.mono hx Ac h.defers
  tm:=fun n=>by rw[ht];exact aY.mono hx _ _ Ac (h.tm n)
  own:=fun nm l' b' h1 h2=>by
   rw[Ae];by_cases e:nm=x.c
   ·rw[e,Ez]at h1;cases h1;exact h.own m _ b' hl h2
   ·rw[Sa nm e]at h1;exact h.own nm l' b' h1 h2
  lt:=fun nm l' Dx=>by
   rw[hc];by_cases e:nm=x.c
   ·omega
   ·rw[Sa nm e]at Dx;have:=h.lt nm l' Dx;omega
  inj:=fun n k l1 l2 b' s1 s2 h1 h2 h3 h4=>by
   by_cases e1:n=x.c
   ·by_cases e2:k=x.c
    ·rw[e1,e2]
    ·rw[e1,Ez]at h1;cases h1;rw[Sa k e2]at h2;obtain⟨g1,g2⟩:=hi k e2 s2;exact absurd (h.inj k m l2 _ b' g2 Bd h2 hl h4 h3) g1
   ·by_cases e2:k=x.c
    ·rw[e2,Ez]at h2;cases h2;rw[Sa n e1]at h1;obtain⟨g1,g2⟩:=hi n e1 s1;exact absurd (h.inj n m l1 _ b' g2 Bd h1 hl h3 h4) g1
    ·rw[Sa n e1]at h1;rw[Sa k e2]at h2;exact h.inj n k l1 l2 b' (hi n e1 s1).2 (hi k e2 s2).2 h1 h2 h3 h4
  st:=fun k bk lk Kr hk=>by
   by_cases e:k=x.c
   ·grind
   ·obtain⟨g1,g2⟩:=hi k e (by rw[hk];rfl)
    rw[hs,aG e,aG g1]at hk;rw[Sa k e]at Kr;refine rV.mono hx Ac (fun l' b' Dx Im=>⟨Bc b' fun e'=>?_,Mm.mono Ac⟩) (h.st k bk lk Kr hk)
    subst e';exact g1 (h.inj k m l' l b' g2 Bd Dx hl Im Be) },
  ⟨by omega,fun k hk hn=>Bc k fun e=>hn (e▸⟨m,l,Bd,hl,Be⟩),fun k _ ⟨n,l',h1,h2,h3⟩=>?_,Ac,by rw[hc];omega,fun n hn e=>by grind,Fv⟩⟩
 by_cases e:n=x.c
 ·rw[e,Ez]at h2;cases h2;exact⟨m,l,Bd,hl,h3⟩
 ·exact⟨n,l',(hi n e h1).2,by grind,h3⟩
theorem xO{α:Type}:∀(us vs:List α),us.length≤vs.length→∀(pre:List α),fJ (pre++vs) pre.length us=pre++us++vs.drop us.length
 | [],vs,_,pre=>by simp[fJ]
 | u::us,[],h,pre=>by simp at h
 | u::us,v::vs,h,pre=>by
  simp only[aO]at h;simp only[fJ];rw[show(pre++v::vs).set pre.length u=(pre++[u])++vs by simp]
  have:=xO us vs (by omega) (pre++[u])
  grind
theorem sI(z:Array Value)(n:Nat):(Builtin.zeroCells z n).size=n*z.size:=by simp[Builtin.zeroCells]
theorem op_app(h:Rel E M0 w0 N μ a w x){z:Value}(ht:AppT E.P t u e i z)(h0:Nat.beq i.size 0=false){o p:Operand}{ar pr:Arg}(h2:dI o=some ar)(h3:dI p=some pr) 
  {d:D} {x':AS} (hs:step E.G (.app i.size i.bytes (e+1) ar pr) x=some (d,x')) (ty:TypeId):gd E M0 w0 N μ w x a d x' w (do pure (.value (←Builtin.append_ #[t,u] ty #[a.eval o,a.eval p]))):=by
 have hv:=cW h h2;have hp:=cW h h3;have Jm:0<i.size:=by
  rcases Nat.eq_zero_or_pos i.size with e0|e0
  ·simp_all
  ·exact e0
 generalize a.eval o=v at *;generalize a.eval p=y at *;simp only[stq,iS,aC,aB]at hs;obtain⟨⟨ys,n⟩,Ma,hs⟩:=hs
 let w1:World:={ w with drawn:=w.drawn+1 }
 have Ka:Rel E M0 w0 N μ a w1 x:=h.world rfl;have Zz:Ext (Mm M0 μ) w (Mm M0 μ) w1:=⟨aK _,fun _ _ _=>rfl,fun _ _ hm=>hm⟩
 have Ds:aY (Mm M0 μ) w1 μ (ar.ev E.G x.t) v:=aY.mono Zz _ _ (gJ.refl _) hv;have On:aY (Mm M0 μ) w1 μ (pr.ev E.G x.t) y:=aY.mono Zz _ _ (gJ.refl _) hp;obtain⟨Kd,hyl,hyc⟩:=uU h Ma hp E.P;obtain⟨_,_,hyc1⟩:=uU Ka Ma On E.P;obtain⟨new,Fv,hnr⟩:=hyc n (aK _);obtain⟨new1,hnew1,hnr1⟩:=hyc1 n (aK _);rw[cS (by omega)]at hnr hnr1
 have Vm:=hnr.length;have Mg:=hnr1.length;simp only[gZ]at Vm Mg
 -- growth: a new block that begins with Oc was there and Oc is Zf
 have grow:∀(base:Option Addr) (len cap:Nat) (cs:List D) (old:Array Value),v = .slice base len cap→cap<len+n→room (len+n) i.bytes=true →
   (Builtin.firstCells i.size len v).run E.P w1 = .ok old w1→bI (Mm M0 μ) w1 μ cs old.toList→cs.length=len*i.size →
   gd E M0 w0 N μ w x a (.gs x.c 0 i.size (len+n)) (x.add (.grow (e+1) (cs++ys))) w (do pure (.value (←Builtin.append_ #[t,u] ty #[v,y]))):=by
  intro base len cap cs old hb zQ Ca Cv Hc Bo;subst hb;obtain⟨c,hc,zV⟩:=rY (ty:=ty) ht Kd zQ Ca Cv hnew1;have Kq:=Hc.length;simp only[gZ]at Kq
  let Cn:=old++new1++Builtin.zeroCells z.cells (c-(len+n))
  have Ae:Cn.size=c*i.size:=by
   simp only[Cn,Array.size_append,sI,Kq,Mg,Bo,hyl,ht.zs];rw[←Nat.add_mul,←Nat.add_mul];congr 1;omega
  have Ke:(cs++ys).length=(len+n)*i.size:=by simp[Bo,hyl,Nat.add_mul]
  obtain⟨μ',hR,hx,hm,Ac,hf⟩:=new_grow Ka (cs:=cs++ys) (vs:=Cn) (by grind) (e:=e) (fz:=(0,0)) (by
    have:Cn.toList.take (cs++ys).length=old.toList++new1.toList:=by
     have e1:Cn.toList=(old.toList++new1.toList)++(Builtin.zeroCells z.cells (c-(len+n))).toList:=by simp[Cn]
     rw[e1,List.take_left' (by simp[Kq,Mg])]
    rw[this];exact Hc.append hnr1) (thaw0 _) (ty:=e+1) (fun k hk=>by grind) (w':={ w with drawn:=w.drawn+1,heap:=w.heap.push (.cells Cn e) }) rfl
  refine⟨_,_,μ',.inl (bU zV),?_,hR,⟨hf.size,hf.same,hf.live,hf.mu,hf.cle,hf.kept,hf.new⟩⟩;simp only[aY];exact⟨_,c,hm,rfl,hc,by simp[Ae],fun hn=>by cases hn⟩
 split at hs
 · -- nil
  rename_i he;rw[he]at hv Ds;simp only[aY]at hv;subst hv;cases Nv:Nat.beq n 0<;>rw[Nv]at hs
  ·cases Ca:room n i.bytes<;>rw[Ca]at hs
   ·cases hs
   simp only[cO,bG]at hs;cases hs;have hnp:n≠0:=fun e0=>by subst e0;simp at Nv
   have:=grow none 0 0 [] #[] rfl (by omega) (by rw[bM];exact Ca) (mT (by simp) w1) bI.nil (by simp)
   rwa [bM]at this
  ·have:=bH Nv;subst this;cases hs;refine iD.of h (bU (v:=.slice none 0 0) ?_) (by simp only[aY])
   rw[kO ht Kd (aK _) Fv];rfl
 · -- memory that is not written
  rename_i ex len cs he;rw[he]at hv Ds;have Ux:=hv;simp only[aY]at hv;obtain⟨ad,cap,rfl,k1,k2,k3⟩:=hv;cases Nv:Nat.beq n 0<;>rw[Nv]at hs
  ·cases zT:(ex&&room (len+n) i.bytes&&Nat.ble (len*i.size) cs.length)<;>rw[zT]at hs
   ·cases hs
   simp only[bW]at zT;obtain⟨⟨c1,c2⟩,c3⟩:=zT;simp only[cO,bG]at hs;cases hs;have hnp:n≠0:=fun e0=>by subst e0;simp at Nv
   have Wj:=k2 c1;obtain⟨_,_,Cv⟩:=uU Ka (show cP x.s i.size (.sl ex len cs)=some (cs.take (len*i.size),len) by simp[cP,c3]) Ds E.P
   obtain⟨old,Cv,Hc⟩:=Cv len (aK _);rw[cS (by simp;omega)]at Hc
   exact grow ad len cap (cs.take (len*i.size)) old rfl (by omega) c2 Cv Hc (by have:=cU c3;simp;omega)
  ·have:=bH Nv;subst this;cases hs;have Mi:new.toList=[]:=eM (by grind)
   refine iD.of h (bU (v:=.slice ad len cap) ?_) Ux;rw[kO ht Kd (show len+0≤cap by omega) Fv]
   cases ad<;>simp[Mi,storeCells]
 · -- a block of our own whose room is known
  rename_i m off zz len c he;rw[he]at hv Ds;have Ux:=hv;simp only[aY]at hv;obtain⟨l,b,k1,k2,rfl,k3,k4⟩:=hv;split at hs
  ·rename_i t0 cs hg;cases hz:Nat.beq zz i.size<;>rw[hz]at hs
   ·cases hs
   have Gw:=bH hz;subst Gw;cases Ac:Nat.ble (len+n) c<;>rw[Ac]at hs
   ·simp only[bG,cO]at hs;cases zT:(room (len+n) i.bytes&&Nat.ble (off+len*i.size) cs.length)<;>rw[zT]at hs
    ·cases hs
    simp only[bW]at zT;obtain⟨c2,c3⟩:=zT;have c3':=cU c3;simp only[bG]at hs;cases hs;have zQ:c<len+n:=by
     rcases Nat.lt_or_ge c (len+n) with hh|hh
     ·exact hh
     ·grind [bO]
    obtain⟨_,_,Cv⟩:=uU Ka (show cP x.s i.size (.ms m off i.size len c)=some ((cs.drop off).take (len*i.size),len) by grind [cP,eR]) Ds E.P
    grind
   ·have Dm:=cU Ac;simp only[bG,aT]at hs;obtain⟨Bt,zZ,Ci⟩:=hs;cases Ci;obtain⟨w',zV,hx,hR,hf⟩:=qG h hg zZ k1 k2 hnr;refine⟨.slice (some ⟨b,off,none⟩) (len+n) c,w',μ,.inl (bU ?_),?_,hR,hf⟩
    all_goals grind [kO,Addr.add_lit,bJ,aR,bV,aY]
  ·cases hs
 · -- a row that grows
  rename_i m off zz len he;rw[he]at hv Ds;have Ux:=hv;simp only[aY]at hv;obtain⟨⟨lb,lc⟩,cap,k1,rfl,k3,k4,k5⟩:=hv;split at hs
  ·rename_i t0 cs hg;cases Nv:Nat.beq n 0<;>rw[Nv]at hs
   ·simp only[cO]at hs;cases zT:(Nat.beq zz i.size && !(ys.any eG))<;>rw[zT]at hs
    ·cases hs
    simp only[bW,Bool.not_eq_true']at zT;obtain⟨c1,c5⟩:=zT;have c1':=bH c1;subst c1';simp only[bG]at hs;have hnp:n≠0:=fun e0=>by simp_all
    have hB:=h.st m _ _ k1 hg;have hmul:(len+n)*i.size=len*i.size+n*i.size:=Nat.add_mul _ _ _;have hnpos:0<n*i.size:=Nat.mul_pos (by omega) Jm
    cases Si:Nat.ble (off+(len+n)*i.size) cs.length<;>rw[Si]at hs
    ·simp only[cO]at hs;cases zT:(Nat.beq off 0&&Nat.ble (len*i.size) cs.length&&room (len+n) i.bytes)<;>rw[zT]at hs
     ·cases hs
     simp only[bW]at zT;obtain⟨⟨c2,c3⟩,c4⟩:=zT;have c2':=bH c2;have c3':=cU c3;subst c2';simp only[bG]at hs;cases hs;have htl:(cs.take (len*i.size)).length=len*i.size:=by simp;omega
     by_cases Ac:len+n≤cap
     · -- in place
      cases lb with
      | none=>grind
      | some b=>
       obtain⟨l,g1,g2⟩:=hB;rw[k1]at g1;cases g1;rcases g2 with⟨g2,_⟩|⟨b',vs,ee,fz,g2,g4,g5,g6,g7,g8,g9,Hx⟩
       ·cases g2
       cases g2;simp only[bM]at k4;have Jb:(len+n)*i.size≤cap*i.size:=Nat.mul_le_mul_right _ Ac;have Ih:∀v∈new.toList,v.oneCell'=true:=tL c5 hnr
       simp only at g7 g8;obtain⟨w',Fi,zV,r1,r2,r3,r4,r5,re⟩:=kE E.P (len*i.size) new.toList 0 w vs g5 g6 (by simp;omega) Ih
       have Ke:(cs.take (len*i.size)++ys).length=(len+n)*i.size:=by grind
       have Wg:Fi.toList.take (cs.take (len*i.size)++ys).length=vs.toList.take (len*i.size)++new.toList:=by
        rw[r5,Nat.add_zero,Ke,rB _ _ _ _ (by simp;omega)]
        have e1:vs.toList.take ((len+n)*i.size)=vs.toList.take (len*i.size)++(vs.toList.drop (len*i.size)).take (n*i.size):=by
         rw[hmul,List.take_add]
        have e2:(vs.toList.take (len*i.size)).length=len*i.size:=by simp;omega
        have e3:=xO new.toList ((vs.toList.drop (len*i.size)).take (n*i.size)) (by simp;omega) (vs.toList.take (len*i.size))
        rw[e2]at e3;rw[e1,e3];have e4:((vs.toList.drop (len*i.size)).take (n*i.size)).drop new.toList.length=[]:=by
         apply List.drop_eq_nil_of_le;simp;omega
        rw[e4,dG]
       have g9':bI (Mm M0 μ) w μ (cs.take (len*i.size)) (vs.toList.take (len*i.size)):=by
        have:=g9.take (len*i.size)
        rwa [List.take_take,Nat.min_eq_left c3']at this
       obtain⟨hx,hR,hf⟩:=h.grown m ⟨some b,lc⟩ b k1 rfl (by rw[hg];rfl) (.grow (bif Nat.beq t0 (e+1) then e+1 else 0) (cs.take (len*i.size)++ys)) (w':=w')
        (x':={ x with s:=sadd (sdel x.s m) x.c (.grow (bif Nat.beq t0 (e+1) then e+1 else 0) (cs.take (len*i.size)++ys)),c:=x.c+1 }) r1 r2 (fun n=>rfl) (fun n=>by rw[aZ,hU]) rfl rfl (fun hx Dm=>
         ⟨⟨some b,lc⟩,by simp[eD],.inr ⟨b,Fi,ee,fz,rfl,Mm.mono Dm g4,r3,by grind,by grind,by grind,by
          rw[Wg];exact(bI.mono hx _ _ Dm g9').append (bI.mono hx _ _ Dm hnr),by
          intro k hk;cases hb:Nat.beq t0 (e+1)<;>rw[hb]at hk
          ·cases hk
          ·exact Hx k ((bH hb).trans hk)⟩⟩) re
       refine⟨.slice (some ⟨b,0,none⟩) (len+n) cap,w',_,.inl (bU ?_),?_,hR,hf⟩
       ·grind [kO,Addr.add_lit,bJ,aR,bV]
       grind [aY,eD]
     · -- moved
      obtain⟨_,_,Cv⟩:=uU Ka (show cP x.s i.size (.gs m 0 i.size len)=some ((cs.drop 0).take (len*i.size),len) by
       have hb:Nat.ble (0+len*i.size) cs.length=true:=bO (by omega)
       grind [cP,eR,aC,eQ]) Ds E.P
      obtain⟨old,Cv,Hc⟩:=Cv len (aK _);rw[cS (by simp;omega),gQ]at Hc
      obtain⟨c,hc,zV⟩:=rY (ty:=ty) ht Kd (by omega) c4 Cv hnew1
      have Kq:=Hc.length;simp only[gZ]at Kq;rw[htl]at Kq
      let Cn:=old++new1++Builtin.zeroCells z.cells (c-(len+n))
      have Ae:Cn.size=c*i.size:=by
       simp only[Cn,Array.size_append,sI,Kq,Mg,hyl,ht.zs];rw[←Nat.add_mul,←Nat.add_mul];congr 1;omega
      obtain⟨hL,hLf⟩:=Ka.less (s':=sdel x.s m) (fun n b hb=>by
       grind [hU])
      have Ke:(cs.take (len*i.size)++ys).length=(len+n)*i.size:=by grind
      obtain⟨μ',hR,hx,hm,Dm,hf⟩:=new_grow hL (cs:=cs.take (len*i.size)++ys) (vs:=Cn) (by grind) (e:=e) (fz:=(0,0)) (by
        have:Cn.toList.take (cs.take (len*i.size)++ys).length=old.toList++new1.toList:=by
         have e1:Cn.toList=(old.toList++new1.toList)++(Builtin.zeroCells z.cells (c-(len+n))).toList:=by simp[Cn]
         rw[e1,List.take_left' (by simp only[dZ,gZ,Kq,Mg,Ke];omega)]
        rw[this];exact Hc.append hnr1) (thaw0 _) (ty:=bif Nat.beq t0 (e+1) then e+1 else 0) (fun k hk=>by
         grind) (w':={ w with drawn:=w.drawn+1,heap:=w.heap.push (.cells Cn e) }) rfl
      refine⟨_,_,μ',.inl (bU zV),?_,hR,⟨(hLf.trans hf).size,(hLf.trans hf).same,(hLf.trans hf).live,(hLf.trans hf).mu,(hLf.trans hf).cle,(hLf.trans hf).kept,(hLf.trans hf).new⟩⟩;simp only[aY];exact⟨_,c,hm,rfl,hc,by simp[Ae],fun hn=>by cases hn⟩
    · -- it fits among Oc is known
     have hfit':=cU Si;simp only[bG,aT]at hs;obtain⟨Bt,zZ,Ci⟩:=hs;cases Ci;cases lb with
     | none=>
      obtain⟨l,g1,g2⟩:=hB
      grind
     | some b=>
      have Wj:len+n≤cap:=by
       obtain⟨l,g1,g2⟩:=hB;rw[k1]at g1;cases g1;rcases g2 with⟨g2,_⟩|⟨b',vs,ee,fz,g2,g4,g5,g6,g7,g8,g9,Hx⟩
       ·cases g2
       ·simp only at g8 k4;exact Nat.le_of_mul_le_mul_right (show(len+n)*i.size≤cap*i.size by omega) Jm
      obtain⟨w',zV,hx,hR,hf⟩:=qG h hg zZ k1 rfl hnr;refine⟨.slice (some ⟨b,off,none⟩) (len+n) cap,w',μ,.inl (bU ?_),?_,hR,hf⟩
      ·grind [kO,Addr.add_lit,bJ,aR,bV]
      grind [aY]
   ·have:=bH Nv;subst this;cases hs;have Mi:new.toList=[]:=eM (by grind)
    refine iD.of h (bU ?_) Ux;rw[kO ht Kd (show len+0≤cap by omega) Fv]
    cases lb<;>simp[Mi,storeCells]
  ·cases hs
 ·cases hs
end
section
variable {E:Env} {M0:Nat→Prop} {w0:World} {N:Nat} {μ:Mu} {M:Nat→Prop} {a:Act} {w:World} {x:AS}
variable {t e ty s:TypeId} {o:Operand} {ar:Arg} {d:D} {x':AS}
theorem op_cap(h:Rel E M0 w0 N μ a w x)(hu:E.P.underlying t=some (.slice e))(h2:dI o=some ar) 
  (hs:step E.G (.cap ar) x=some (d,x')):gd E M0 w0 N μ w x a d x' w (do pure (.value (←Builtin.cap_ #[t] ty #[a.eval o]))):=by
 simp only[step_cap,rA]at hs;cases hs
theorem op_len(h:Rel E M0 w0 N μ a w x){st:Bool}(h2:dI o=some ar)(hu:if st then E.P.underlying t=some .string else ∃e,E.P.underlying t=some (.slice e)) 
  (hs:step E.G (.len st ar) x=some (d,x')):gd E M0 w0 N μ w x a d x' w (do pure (.value (←Builtin.len_ #[t] ty #[a.eval o]))):=by
 have hv:=cW h h2;simp only[stq]at hs;split at hs
 ·rename_i n hn;cases hs;exact iD.of h (bU (lenD_rel (P:=E.P) hn hv hu w)) (by simp only[aY])
 ·cases hs
theorem op_mm(h:Rel E M0 w0 N μ a w x){mx:Bool}{ts:Array TypeId}{p:Operand}{pr:Arg}(h2:dI o=some ar)(h3:dI p=some pr) 
  (hs:step E.G (.mm mx ar pr) x=some (d,x')) :
  gd E M0 w0 N μ w x a d x' w (do pure (.value (←bif mx then Builtin.max_ ts ty #[a.eval o,a.eval p]else Builtin.min_ ts ty #[a.eval o,a.eval p]))):=by
 have hv:=cW h h2;have hp:=cW h h3;generalize a.eval o=v at *;generalize a.eval p=u at *;simp only[stq]at hs;split at hs
 ·rename_i k n k' m Ms Ip;rw[Ms]at hv;rw[Ip]at hp;simp only[aY]at hv hp;subst hv;subst hp;cases hs;cases mx
  ·exact iD.of (v:=.int k (if m<n then m else n)) h (bU (by simp[Builtin.min_,Builtin.min2])) (by grind [aY])
  ·exact iD.of (v:=.int k (if m>n then m else n)) h (bU (by simp[Builtin.max_,Builtin.max2])) (by grind [aY])
 ·cases hs
theorem op_cvI(h:Rel E M0 w0 N μ a w x){k k':IntKind}(hu:E.P.underlying s=some (.int k'))(hd:E.P.underlying t=some (.int k))(h2:dI o=some ar) 
  (hs:step E.G (.cvI k ar) x=some (d,x')):gd E M0 w0 N μ w x a d x' w (do pure (.value (←convert s t (a.eval o)))):=by
 have hv:=cW h h2;generalize a.eval o=v at *;simp only[stq]at hs;split at hs
 ·rename_i j n he;rw[he]at hv;simp only[aY]at hv;subst hv;cases hs;exact iD.of (v:=.int k (k.wrap n)) h (bU (by simp_all [convert,bL,Conv.intToInt])) (by simp only[aY,kX])
 ·cases hs
theorem op_cvN(h:Rel E M0 w0 N μ a w x){ds:TypeDesc}(hu:E.P.underlying s=some ds)(hd:E.P.underlying t=some .string)(hk:(∃k,ds = .int k)∨ds = .string)(h2:dI o=some ar) 
  (hs:step E.G (.cvN ar) x=some (d,x')):gd E M0 w0 N μ w x a d x' w (do pure (.value (←convert s t (a.eval o)))):=by
 have hv:=cW h h2;generalize a.eval o=v at *;simp only[stq]at hs;split at hs
 ·rename_i j n he;rw[he]at hv;simp only[aY]at hv;subst hv;cases hs;refine iD.of (v:=.string (Utf8.encode n)) h (bU ?_) (by simp only[aY,Array.toArray_toList])
  simp_all [convert,bL,Conv.intToString]
 ·rename_i s he;rw[he]at hv;have Ux:=hv;simp only[aY]at hv;simp_all [iD.of,bU,convert,bL]
 ·cases hs
theorem op_cvB(h:Rel E M0 w0 N μ a w x)(hu:E.P.underlying s=some .string)(hd:E.P.underlying t=some (.slice e))(he:E.P.underlying e=some (.int .u8))(h2:dI o=some ar) 
  {d:D} {x':AS} (hs:step E.G (.cvB ar) x=some (d,x')):gd E M0 w0 N μ w x a d x' w (do pure (.value (←convert s t (a.eval o)))):=by
 have hv:=cW h h2;generalize a.eval o=v at *;simp only[stq]at hs;split at hs
 ·rename_i str hee;rw[hee]at hv;simp only[aY]at hv;subst hv;cases hs
  let c:=str.length+(w.tape w.drawn (.appendCap str.length 0 e)) % (2 ^ 63-str.length)
  let Cn:Array Value:=(str.toArray.map fun b=>Value.int .u8 b.toNat)++Array.replicate (c-str.length) (.int .u8 0)
  have Ae:Cn.size=c:=by simp[Cn,c]
  let w':World:={ w with drawn:=w.drawn+1,heap:=w.heap.push (.cells Cn e (Cn.size,Cn.size+1)) }
  obtain⟨μ',hR,hx,hm,Ac,hf⟩:=new_grow (w:={ w with drawn:=w.drawn+1 }) (h.world rfl) (cs:=mW str) (vs:=Cn) (by simp[mW,Cn]) (e:=e) (fz:=(Cn.size,Cn.size+1)) (by
    grind [mW,bI.mk,aT,aY]) (fun o ho hc=>by omega) (ty:=0) (fun k hk=>by omega) (w':=w') rfl
  refine⟨.slice (some ⟨w.heap.size,0,none⟩) str.length c,w',μ',.inl (bU ?_),?_,hR,⟨hf.size,hf.same,hf.live,hf.mu,hf.cle,hf.kept,hf.new⟩⟩
  ·have Bi:∀o:Obj,(w.heap.push o).modify w.heap.size (fun o=>match o with
     | .cells c elem (lo,hi)=>.cells c elem (if lo==hi then(Cn.size,Cn.size+1) else(min lo Cn.size,max hi (Cn.size+1)))
     | o=>o)=w.heap.push (match o with
     | .cells c elem (lo,hi)=>.cells c elem (if lo==hi then(Cn.size,Cn.size+1) else(min lo Cn.size,max hi (Cn.size+1)))
     | o=>o):=by
    intro o;apply Array.ext
    ·simp
    ·intro i h1 h2;simp only[Array.getElem_modify,Array.getElem_push];by_cases hi:i<w.heap.size
     ·have:¬w.heap.size=i:=by omega
      simp[hi,this]
     ·have:w.heap.size=i:=by simp at h2;omega
      subst this;simp
   simp only[convert,bJ,bL hu,bL hd,bL he,aR,Conv.stringToBytes,run_choose,Question.forced,cT,iV,Question.cut,newRow,run_newObj,bV,markStringish,run_shape];have Qh:(⟨str.toArray⟩:ByteArray).size=str.length:=by simp[ByteArray.size]
   have hshape:World.shape? { w with drawn:=w.drawn+1,heap:=w.heap.push (.cells Cn e) } w.heap.size=some (e,Cn.size):=by
    simp[World.shape?]
   simp only[Qh]at *;rw[show((⟨str.toArray⟩:ByteArray).data.map fun b=>Value.int .u8 b.toNat)=str.toArray.map fun b=>Value.int .u8 b.toNat from rfl]
   simp only[show(Array.map (fun b:UInt8=>Value.int .u8 b.toNat) str.toArray++Array.replicate (str.length+w.tape w.drawn (.appendCap str.length 0 e) % (2 ^ 63-str.length)-str.length) (Value.int .u8 0))=Cn from rfl]
   rw[hshape];simp only[run_freeze,aR,bJ,bV];simp only[World.freeze,Nat.one_ne_zero,iV]
   congr 1
   simp only[w',World.mk.injEq,and_true,true_and]
   grind
  ·simp only[aY];exact⟨_,c,hm,rfl,by simp[c],by simp[Ae],fun hn=>by cases hn⟩
 ·cases hs
theorem byteOfD_some{b:UInt8}(h:byteOfD d=some b):∃n,d = .int .u8 n∧b=UInt8.ofNat n.toNat:=by
 cases d<;>simp only[byteOfD,reduceCtorEq]at h
 grind
theorem bytes_loop{P:Program}(f:Value→ByteArray→Sem (ForInStep ByteArray))(hf:∀n s,f (.int .u8 n) s=pure (ForInStep.yield (s.push (UInt8.ofNat n.toNat)))):∀(ns:List Int) (s:ByteArray) (w:World),
  (forIn (ns.map (fun n=>Value.int IntKind.u8 n)) s f).run P w=Result.ok (⟨(s.data.toList++ns.map fun n=>UInt8.ofNat n.toNat).toArray⟩:ByteArray) w
 | [],s,w=>by simp
 | b::bs,s,w=>by
  simp only[bS,List.forIn_cons,bJ,bV,aR,hf];rw[bytes_loop f hf bs _ w]
  simp_all
theorem run_bytesToString_some{P:Program}{ad:Addr}{len cap:Nat}{Cn:Array Value}{w:World}(hl:(loadCells ad len).run P w = .ok Cn w)(ns:List Int)(hb:Cn.toList=ns.map (fun n=>Value.int .u8 n)):
  (Conv.bytesToString (.slice (some ad) len cap)).run P w = .ok (.string ⟨(ns.map fun n=>UInt8.ofNat n.toNat).toArray⟩) w:=by
 simp only[Conv.bytesToString,bJ,hl,aR];rw[←Array.forIn_toList,hb,bytes_loop _ (fun _ _=>rfl)]
 simp
theorem bytesD_rel:∀{cs:List D} {bs:List UInt8} {vs:List Value},cs.mapM byteOfD=some bs→bI (Mm M0 μ) w μ cs vs→∃ns:List Int,vs=ns.map (fun n=>Value.int .u8 n)∧bs=ns.map fun n=>UInt8.ofNat n.toNat
 | [],bs,vs,hb,hr=>by
  simp_all [bI]
 | c::cs,bs,vs,hb,hr=>by
  simp only[List.mapM_cons,aC,aB,Option.pure_def,aD]at hb;obtain⟨b,hb,bs',Yp,rfl⟩:=hb;simp only[bI]at hr;obtain⟨v,r,rfl,h1,h2⟩:=hr;obtain⟨n,rfl,rfl⟩:=byteOfD_some hb;simp only[aY]at h1;subst h1;obtain⟨ns,rfl,rfl⟩:=bytesD_rel Yp h2;exact⟨n::ns,rfl,rfl⟩
theorem op_cvS(h:Rel E M0 w0 N μ a w x)(hu:E.P.underlying s=some (.slice e))(hd:E.P.underlying t=some .string)(he:E.P.underlying e=some (.int .u8))(h2:dI o=some ar) 
  {d:D} {x':AS} (hs:step E.G (.cvS ar) x=some (d,x')):gd E M0 w0 N μ w x a d x' w (do pure (.value (←convert s t (a.eval o)))):=by
 have hv:=cW h h2;generalize a.eval o=v at *;simp only[stq]at hs;split at hs
 ·cases hs
 ·rename_i Yd;simp only[aC,aB]at hs;obtain⟨⟨cs,n⟩,Ma,bs,Yp,hs⟩:=hs;cases hs;obtain⟨zU,Bo,Dc⟩:=uU h Ma hv E.P;obtain⟨Cn,Uc,Ld⟩:=Dc n (aK _);rw[cS (by omega)]at Ld
  obtain⟨ns,h3,rfl⟩:=bytesD_rel Yp Ld;refine iD.of (v:=.string ⟨(ns.map fun n=>UInt8.ofNat n.toNat).toArray⟩) h (bU ?_) (by simp only[aY])
  have hconv:convert s t v=Conv.bytesToString v→True:=fun _=>trivial
  have Km:∃ad len cap,v = .slice ad len cap:=by
   generalize ar.ev E.G x.t=d0 at *;cases d0<;>simp only[cP,reduceCtorEq]at Ma
   case str s=>grind
   all_goals simp only[aY]at hv
   ·grind
   ·grind
   ·grind
   ·grind
  obtain⟨ad,len,cap,rfl⟩:=Km;simp[Builtin.lenOf]at zU;subst zU;cases ad with
  | none=>
   simp[Builtin.firstCells]at Uc;subst Uc;have:ns=[]:=by simpa using h3.symm
   subst this;simp only[convert,bJ,bL hu,bL hd,bL he,aR,Conv.bytesToString,bV];rfl
  | some ad=>
   simp only[Builtin.firstCells,dS]at Uc;simp only[convert,bJ,bL hu,bL hd,bL he,aR]
   grind [run_bytesToString_some]
theorem op_copy(h:Rel E M0 w0 N μ a w x){u:TypeId}{sz:Nat}(hu:E.P.underlying t=some (.slice e))(Ae:iN E.P e=some sz){p:Operand}{pr:Arg}(h2:dI o=some ar)(h3:dI p=some pr) 
  {d:D} {x':AS} (hs:step E.G (.copy sz ar pr) x=some (d,x')):gd E M0 w0 N μ w x a d x' w (do pure (.value (←Builtin.copy_ #[t,u] ty #[a.eval o,a.eval p]))):=by
 have hv:=cW h h2;have hp:=cW h h3;generalize a.eval o=v at *;generalize a.eval p=y at *;simp only[stq,aC,aB]at hs;obtain⟨⟨ys,n⟩,Ma,hs⟩:=hs;obtain⟨Kd,hyl,hyc⟩:=uU h Ma hp E.P;split at hs
 ·rename_i he;rw[he]at hv;simp only[aY]at hv;subst hv;cases hs;obtain⟨Cn,Uc,_⟩:=hyc 0 (dM _);refine iD.of (v:=.int .i64 0) h (bU ?_) (by simp only[aY])
  simp_all [Builtin.copy_,bL,eB,goInt]
 ·rename_i nm off z len c he;rw[he]at hv;simp only[aY]at hv;obtain⟨l,b,k1,k2,rfl,k3,k4⟩:=hv;simp only[aB]at hs;obtain⟨blk,hg,hs⟩:=hs;cases hz:Nat.beq z sz<;>rw[hz]at hs
  ·cases hs
  simp only[bG,aT]at hs;obtain⟨Bt,zZ,Ci⟩:=hs;cases Ci;obtain⟨Cn,Uc,Ld⟩:=hyc (min n len) (Nat.min_le_left _ _);obtain⟨w',zV,hx,hR,hf⟩:=qG h hg zZ k1 k2 Ld;refine⟨.int .i64 (min n len:Nat),w',μ,.inl (bU ?_),by simp only[aY],hR,hf⟩
  have Ov:Nat.min n len=min n len:=rfl;simp only[Builtin.copy_,List.getElem?_toArray,aV,List.getElem?_cons_succ,bJ,bL hu,Kd,eB Ae,aR,bV,Ov,Uc,zV,goInt]
 ·rename_i nm off z len he;rw[he]at hv;simp only[aY]at hv;obtain⟨⟨lb,lc⟩,cap,k1,rfl,k3,k4,k5⟩:=hv;simp only[aB]at hs;obtain⟨blk,hg,hs⟩:=hs;cases hz:Nat.beq z sz<;>rw[hz]at hs
  ·cases hs
  simp only[bG,aT]at hs;obtain⟨Bt,zZ,Ci⟩:=hs;cases Ci;obtain⟨Cn,Uc,Ld⟩:=hyc (min n len) (Nat.min_le_left _ _);have Ov:Nat.min n len=min n len:=rfl;cases lb with
  | some b=>
   obtain⟨w',zV,hx,hR,hf⟩:=qG h hg zZ k1 rfl Ld;refine⟨.int .i64 (min n len:Nat),w',μ,.inl (bU ?_),by simp only[aY],hR,hf⟩
   simp only[bR,Builtin.copy_,List.getElem?_toArray,aV,List.getElem?_cons_succ,bJ,bL hu,Kd,eB Ae,aR,bV,Ov,Uc,zV,goInt]
  | none=>
   have Fe:cap=0:=k5 rfl;have hl0:len=0:=by omega
   subst hl0
   -- nothing is stored
   have Ar:Bt=blk:=by
    simp only[Nat.min_zero,eA,cC]at zZ;unfold stB at zZ;simp only[List.any_nil,cO]at zZ;split at zZ
    ·grind [Nat.ble,fJ,aD]
    ·grind [Nat.ble,fJ,aD]
    ·cases zZ
   subst Ar;have Ol:∀k,sget (sset x.s nm Bt) k=sget x.s k:=fun k=>by
    grind [aU]
   refine⟨.int .i64 (min n 0:Nat),w,μ,.inl (bU ?_),by simp only[aY],h.congr (fun n=>.inl rfl) Ol (aK _) rfl,⟨aK _,fun _ _ _=>rfl,fun b _ ⟨Zo,l',h1,h2,h3⟩=>⟨Zo,l',by grind,h2,h3⟩,gJ.refl μ,aK _,fun _ _ h=>h,nonew⟩⟩
   ·simp only[Option.map_none,Builtin.copy_,List.getElem?_toArray,aV,List.getElem?_cons_succ,bJ,bL hu,Kd,eB Ae,aR,bV,Ov,Uc,goInt]
 ·cases hs
theorem op_rng(h:Rel E M0 w0 N μ a w x)(hu:E.P.underlying t=some .string)(h2:dI o=some ar) 
  (hs:step E.G (.rng ar) x=some (d,x')):gd E M0 w0 N μ w x a d x' w (do pure (.value (←Instr.range t (a.eval o)))):=by
 have hv:=cW h h2;generalize a.eval o=v at *;simp only[stq]at hs;split at hs
 ·rename_i s he;rw[he]at hv;simp only[aY]at hv;subst hv;cases hs
  let w':World:={ w with heap:=w.heap.push (.stringIter ⟨s.toArray⟩ 0) }
  obtain⟨hx,hR,hf⟩:=h.fresh x.c (aK _) (.iter s 0) (.stringIter ⟨s.toArray⟩ 0) 0 (w':=w') (x':=x.add (.iter s 0)) rfl (fun _=>rfl) (fun n=>aZ _ _ _ _) rfl rfl (fun hx hM=>⟨⟨some w.heap.size,0⟩,w.heap.size,by simp[eD],rfl,hM,by simp[w']⟩)
  refine⟨.pointer (some ⟨w.heap.size,0,none⟩),w',_,.inl (bU (by simp[Instr.range,bL hu,w'])),?_,hR,hf⟩
  grind [aY,eD]
 ·cases hs
theorem op_next(h:Rel E M0 w0 N μ a w x)(h2:dI o=some ar) 
  (hs:step E.G (.next ar) x=some (d,x')):gd E M0 w0 N μ w x a d x' w (do pure (.value (←Instr.next (a.eval o) true ty))):=by
 have hv:=cW h h2;generalize a.eval o=v at *;simp only[stq]at hs;split at hs
 ·rename_i nm he;rw[he]at hv;simp only[aY]at hv;obtain⟨l,b,k1,k2,rfl⟩:=hv;split at hs
  ·rename_i s pos hg;obtain⟨l',b',g1,g2,g3,g4⟩:=h.st nm _ _ k1 hg;rw[k1]at g1;cases g1;rw[k2]at g2;cases g2;have Qh:(⟨s.toArray⟩:ByteArray).size=s.length:=by simp[ByteArray.size]
   cases zQ:Nat.blt pos s.length<;>rw[zQ]at hs
   ·cases hs;have Gm:¬pos<s.length:=fun hc=>by grind [Nat.blt_eq]
    refine iD.of (v:=.tuple #[.bool false]) h (bU ?_) ?_
    ·simp[Instr.next,getObj,Sem.run,g4,Qh,Gm]
    grind [aY,bI.cons,bI.nil]
   ·cases hs;have Gm:pos<s.length:=by rw[Nat.blt_eq]at zQ;exact zQ
    have hb:b<w.heap.size:=(h.own nm l b k1 k2).2
    let w':World:={ w with heap:=w.heap.setIfInBounds b (.stringIter ⟨s.toArray⟩ (pos+(pO s pos).2)) }
    obtain⟨hx,hR,hf⟩:=h.write nm (.iter s (pos+(pO s pos).2)) l b (w':=w') (x':={ x with s:=sset x.s nm (.iter s (pos+(pO s pos).2)) }) k1 k2 (by rw[hg];rfl) (by simp[w']) (fun k hk=>by
      grind) (fun n=>rfl) (fun n=>by rw[aU]) rfl rfl (fun hx=>⟨l,b,k1,k2,g3,by simp[w',hb]⟩)
    refine⟨.tuple #[.bool true,goInt pos,.int .i32 (pO s pos).1],w',μ,.inl (bU ?_),?_,hR,hf⟩
    ·simp only[Instr.next,getObj,bJ,Sem.run,g4,aR,Qh,Gm,if_true,setObj,w',pO];rfl
    grind [aY,bI.cons,goInt,bI.nil]
  ·cases hs
 ·cases hs
end
end Zv
