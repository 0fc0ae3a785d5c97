/- The operations of the model do what the abstract ones say: new blocks, stores, appends, copies. Conditions: none. -/
import Derived.Test.YtnpoohbeicakkaaGreatDoorZAC
set_option linter.unusedSimpArgs false
set_option linter.unusedVariables false
namespace Zv
open Go
section
variable {E:Env} {M0:Nat→Prop} {w0:World} {N:Nat} {μ:Mu} {M:Nat→Prop} {a:Act} {w:World} {x:AS}
theorem new_fix(h:Rel E M0 w0 N μ a w x){cs:List D}{vs:Array Value}(hr:aX (Mm M0 μ) w μ cs vs.toList){e:TypeId}{fz:Nat×Nat}
  (ht:Thaw vs.size fz) {ty:Nat} (hty:∀k,ty=k+1→e=k) {w':World} (hw:w'.heap=w.heap.push (.cells vs e fz)) (he:uP w w':=by exact⟨rfl,rfl⟩) :
  ∃μ',Rel E M0 w0 N μ' a w' (x.add (.fix ty cs))∧Ext (Mm M0 μ) w (Mm M0 μ') w'∧μ' x.c=some ⟨some w.heap.size,cs.length⟩∧fV μ μ'∧Fr x.c x.s μ w (x.add (.fix ty cs)).c (x.add (.fix ty cs)).s μ' w':=by
 have hle:=h.free_le (aJ _) (some ⟨some w.heap.size,cs.length⟩);obtain⟨hx,hr',hf⟩:=h.fresh x.c (aJ _) (.fix ty cs) (.cells vs e fz) cs.length (x':=x.add (.fix ty cs)) hw (fun _=>rfl) (fun n=>aW _ _ _ _) rfl rfl (fun hx hM=>
  ⟨⟨some w.heap.size,cs.length⟩,w.heap.size,vs,e,fz,by simp[dR],rfl,rfl,hM,by rw[hw];simp,ht,aX.mono hx _ _ hle hr,hty⟩) he
 exact⟨_,hr',hx,by simp[dR],hle,hf⟩
theorem new_grow(h:Rel E M0 w0 N μ a w x){cs:List D}{vs:Array Value}(hlen:cs.length≤vs.size)(hr:aX (Mm M0 μ) w μ cs (vs.toList.take cs.length)){e:TypeId}{fz:Nat×Nat}
  (ht:Thaw vs.size fz) {ty:Nat} (hty:∀k,ty=k+1→e=k) {w':World} (hw:w'.heap=w.heap.push (.cells vs e fz)) (he:uP w w':=by exact⟨rfl,rfl⟩) :
  ∃μ',Rel E M0 w0 N μ' a w' (x.add (.grow ty cs))∧Ext (Mm M0 μ) w (Mm M0 μ') w'∧μ' x.c=some ⟨some w.heap.size,vs.size⟩∧fV μ μ'∧Fr x.c x.s μ w (x.add (.grow ty cs)).c (x.add (.grow ty cs)).s μ' w':=by
 have hle:=h.free_le (aJ _) (some ⟨some w.heap.size,vs.size⟩);obtain⟨hx,hr',hf⟩:=h.fresh x.c (aJ _) (.grow ty cs) (.cells vs e fz) vs.size (x':=x.add (.grow ty cs)) hw (fun _=>rfl) (fun n=>aW _ _ _ _) rfl rfl (fun hx hM=>
  ⟨⟨some w.heap.size,vs.size⟩,by simp[dR],.inr ⟨w.heap.size,vs,e,fz,rfl,hM,by rw[hw];simp,ht,rfl,hlen,aX.mono hx _ _ hle hr,hty⟩⟩) he
 exact⟨_,hr',hx,by simp[dR],hle,hf⟩
theorem thaw0(n:Nat):Thaw n (0,0):=fun o _ h=>by have:=h.2;simp at this
theorem op_new(h:Rel E M0 w0 N μ a w x){ar:Arg}{v:Value}(hv:aP (Mm M0 μ) w μ (ar.ev E.G x.t) v){e:TypeId}{d:D}{x':AS}
  (hs:step E.G (.new (e+1) ar) x=some (d,x')) {s:Sem Value} (hrun:s.run E.P w = .ok (.pointer (some ⟨w.heap.size,0,none⟩)) { w with heap:=w.heap.push (.cells v.cells e) }) :
  gd E M0 w0 N μ w x a d x' w (do pure (.value (←s))):=by
 simp only[stq]at hs;split at hs
 ·rename_i cs hcs;cases hs;obtain⟨μ',hr,hx,hm,hle,hf⟩:=new_fix h (lP hcs hv) (thaw0 _) (ty:=e+1) (fun k hk=>by first|exact Nat.add_right_cancel hk|exact absurd hk.symm (Nat.succ_ne_zero k)) (w':={ w with heap:=w.heap.push (.cells v.cells e) }) rfl
  refine⟨_,_,μ',.inl (bP hrun),?_,hr,hf⟩;simp only[aP];exact⟨_,_,hm,rfl,rfl⟩
 ·cases hs
/-! Stores. -/
theorem jV(P:Program){b:Nat}{e:TypeId}{fz:Nat×Nat}(o:Nat):∀(us:List Value) (i:Nat) (w:World) (cur:Array Value),w.heap[b]?=some (.cells cur e fz)→Thaw cur.size fz →
  o+i+us.length≤cur.size→(∀v∈us,v.oneCell'=true) →
  ∃w' cur',(storeCells ⟨b,o,none⟩ us i).run P w = .ok () w'∧w'.heap.size=w.heap.size∧(∀k,k≠b→w'.heap[k]?=w.heap[k]?)∧w'.heap[b]?=some (.cells cur' e fz)∧cur'.size=cur.size ∧
   cur'.toList=eS cur.toList (o+i) us∧uP w w'
 | [],i,w,cur,hb,_,_,_=>⟨w,cur,by simp[storeCells],rfl,fun _ _=>rfl,hb,rfl,rfl,rfl,rfl⟩
 | u::us,i,w,cur,hb,ht,hl,h1=>by
  simp only[aU]at hl;have hcell:∃c,w.cell? ⟨b,o+i,none⟩=some c:=by
   refine⟨cur[o+i]'(by omega),?_⟩
   simp only[World.cell?,hb,Option.isSome_none,cN,eV];exact gY (by omega)
  obtain⟨c,hc⟩:=hcell;have hfz:w.frozen? ⟨b,o+i,none⟩=false:=by
   simp only[World.frozen?,hb];have:=ht (o+i) (by omega)
   simp only[Bool.and_eq_false_iff,bX];by_cases h2:fz.1≤o+i
   ·exact .inr fun h3=>this ⟨h2,h3⟩
   ·exact .inl h2
  have hstep:(store ⟨b,o+i,none⟩ u).run P w = .ok () (w.setCell ⟨b,o+i,none⟩ u):=by
   rw[run_store P w _ u .plain (h1 u (by simp)),hc]
   simp[hfz]
  have hb':b<w.heap.size:=by
   rcases Nat.lt_or_ge b w.heap.size with h|h
   ·exact h
   ·rw[Array.getElem?_eq_none h]at hb;cases hb
  have hset:(w.setCell ⟨b,o+i,none⟩ u).heap[b]?=some (.cells (cur.setIfInBounds (o+i) u) e fz):=by
   simp only[World.setCell,Array.getElem?_modify,if_true,hb,bJ,Option.isSome_none,cN,eV]
  obtain⟨w',cur',hrun,hs1,hs2,hs3,hs4,hs5,hs6⟩:=jV P o us (i+1) (w.setCell ⟨b,o+i,none⟩ u) (cur.setIfInBounds (o+i) u) hset (by simpa using ht) (by simp;omega)
   (fun v hv=>h1 v (by simp[hv]))
  refine⟨w',cur',?_,?_,fun k hk=>?_,hs3,by simpa using hs4,?_,hs6⟩
  ·simp only[storeCells,Addr.add_lit,aY,hstep,aM,hrun]
  ·rw[hs1];simp[World.setCell]
  ·rw[hs2 k hk];simp only[World.setCell,Array.getElem?_modify];rw[aD (fun e=>hk e.symm)]
  ·rw[hs5];simp[eS,Nat.add_assoc]
theorem oneCell_of{d:D}{v:Value}(hd:eU d=false)(h:aP (Mm M0 μ) w μ d v):v.oneCell'=true:=by
 cases d<;>simp only[eU,reduceCtorEq]at hd
 all_goals simp only[aP]at h
 all_goals first
  | subst h
  | (obtain⟨_,rfl,_⟩:=h)
  | (obtain⟨_,_,rfl,_⟩:=h)
  | (obtain⟨_,_,_,rfl,_⟩:=h)
  | (obtain⟨_,_,_,_,rfl⟩:=h)
  | (obtain⟨_,_,_,_,rfl,_⟩:=h)
 all_goals rfl
theorem sV:∀{ds:List D} {us:List Value},ds.any eU=false→aX (Mm M0 μ) w μ ds us→∀v∈us,v.oneCell'=true
 | [],us,_,h=>by simp only[aX]at h;subst h;simp
 | d::ds,us,hd,h=>by
  simp only[aX]at h;obtain⟨v,r,rfl,h1,h2⟩:=h;simp only[List.any_cons,Bool.or_eq_false_iff]at hd;intro u hu;rcases bL.1 hu with rfl|hu
  ·exact oneCell_of hd.1 h1
  ·exact sV hd.2 h2 u hu
theorem qV{α:Type}:∀(us vs:List α) (off n:Nat),off+us.length≤n→(eS vs off us).take n=eS (vs.take n) off us
 | [],vs,off,n,_=>rfl
 | u::us,vs,off,n,h=>by
  simp only[aU]at h;simp only[eS];rw[qV us _ _ n (by omega),List.take_set]
theorem pQ(h:Rel E M0 w0 N μ a w x){nm off:Nat}{blk blk':Blk}{ds:List D}(hg:sget x.s nm=some blk)(hst:stB blk off ds=some blk'){l:Loc}{b:Nat}(hl:μ nm=some l)(hlb:l.blk=some b)
  {us:List Value} (hr:aX (Mm M0 μ) w μ ds us) :
  ∃w',(storeCells ⟨b,off,none⟩ us).run E.P w = .ok () w'∧Ext (Mm M0 μ) w (Mm M0 μ) w'∧Rel E M0 w0 N μ a w' { x with s:=sset x.s nm blk' }∧Fr x.c x.s μ w x.c (sset x.s nm blk') μ w':=by
 unfold stB at hst;have hag:ds.any eU=false:=by
  cases hag:ds.any eU
  ·rfl
  ·rw[hag]at hst;cases hst
 rw[hag]at hst;have hone:=sV hag hr;have hlen:=hr.length;simp only[cF]at hst;have hss:∀n,sget (sset x.s nm blk') n=if n=nm then some blk' else sget x.s n:=by
  intro n;rw[aN]
 have hB:=h.st nm blk l hl hg;have hlive:(sget x.s nm).isSome=true:=by rw[hg];rfl
 split at hst
 ·rename_i ty cs;obtain⟨l',b',vs,e,fz,h1,h2,h3,h4,h5,h6,h7,h8⟩:=hB;rw[hl]at h1;cases h1;rw[hlb]at h2;cases h2;cases hle:Nat.ble (off+ds.length) cs.length<;>rw[hle]at hst
  ·cases hst
  have hle':=cO hle;simp only[aS,aC]at hst;subst hst;have hcl:=h7.length;simp only[eP]at hcl;obtain⟨w',cur',hrun,g1,g2,g3,g4,g5,ge⟩:=jV E.P off us 0 w vs h5 h6 (by omega) hone
  obtain⟨hx,hR,hf⟩:=h.write nm (.fix ty (eS cs off ds)) l b (x':={ x with s:=sset x.s nm (.fix ty (eS cs off ds)) }) hl hlb hlive g1 g2 (fun n=>rfl) hss rfl rfl (fun hx=>
   ⟨l,b,cur',e,fz,hl,hlb,by rw[iT];exact h3,h4,g3,by rw[g4];exact h6,by
    rw[g5,Nat.add_zero];exact aX.setAt off (aX.mono hx _ _ (fV.refl _) h7) (aX.mono hx _ _ (fV.refl _) hr),h8⟩) ge
  exact⟨w',hrun,hx,hR,hf⟩
 ·rename_i ty cs;obtain⟨l',h1,hh⟩:=hB;rw[hl]at h1;cases h1;rcases hh with⟨h2,_⟩|⟨b',vs,e,fz,h2,h4,h5,h6,h7,h8,h9,h10⟩
  ·rw[hlb]at h2;cases h2
  rw[hlb]at h2;cases h2;cases hle:Nat.ble (off+ds.length) cs.length<;>rw[hle]at hst
  ·cases hst
  have hle':=cO hle;simp only[aS,aC]at hst;subst hst;obtain⟨w',cur',hrun,g1,g2,g3,g4,g5,ge⟩:=jV E.P off us 0 w vs h5 h6 (by omega) hone
  obtain⟨hx,hR,hf⟩:=h.write nm (.grow ty (eS cs off ds)) l b (x':={ x with s:=sset x.s nm (.grow ty (eS cs off ds)) }) hl hlb hlive g1 g2 (fun n=>rfl) hss rfl rfl (fun hx=>
   ⟨l,hl,.inr ⟨b,cur',e,fz,hlb,h4,g3,by rw[g4];exact h6,by rw[g4];exact h7,by rw[iT];exact h8,by
    rw[g5,Nat.add_zero,iT,qV _ _ _ _ (by omega)]
    exact aX.setAt off (aX.mono hx _ _ (fV.refl _) h9) (aX.mono hx _ _ (fV.refl _) hr),h10⟩⟩) ge
  exact⟨w',hrun,hx,hR,hf⟩
 ·cases hst
theorem op_st(h:Rel E M0 w0 N μ a w x){t:TypeId}{n:Nat}(hsz:iE E.P t=some n){o p:Operand}{ar pr:Arg}(h2:cS o=some ar)(h3:cS p=some pr){d:D}{x':AS}
  (hs:step E.G (.st n ar pr) x=some (d,x')):gd E M0 w0 N μ w x a d x' w (do Instr.storeAt t (a.eval o) (a.eval p);pure .skip):=by
 have hv:=cP h h2;have hp:=cP h h3;simp only[stq]at hs;split at hs
 ·rename_i nm off he;rw[he]at hv;simp only[aP]at hv;obtain⟨l,b,h4,h5,hv⟩:=hv;simp only[aB,aA]at hs;obtain⟨blk,hg,ds,hds,hs⟩:=hs;cases hl:Nat.beq ds.length n<;>rw[hl]at hs
  ·cases hs
  have hl':=aR hl;simp only[aS,aG]at hs;obtain⟨blk',hst,he⟩:=hs;cases he;have hcells:=lP hds hp;obtain⟨w',hrun,hx,hR,hf⟩:=pQ h hg hst h4 h5 hcells;have hlen:=hcells.length;simp only[eP]at hlen;refine⟨undef,w',μ,.inr ⟨?_,rfl⟩,by simp only[aP],hR,hf⟩
  have hsz':¬(a.eval p).cells.size≠n:=by omega
  simp only[Instr.storeAt,hv,Instr.sureAddr,aY,bO,aM,storeVar,dO hsz,hsz',eV,hrun]
 ·cases hs
/-! Literals of slices; 'make'. -/
theorem rep_get{α:Type}(z:List α):∀(n i:Nat),i<n*z.length→((List.replicate n z).flatten)[i]?=z[i % z.length]?
 | 0,i,h=>by simp at h
 | n+1,i,h=>by
  rw[List.replicate_succ,eI];by_cases hi:i<z.length
  ·rw[List.getElem?_append_left hi,Nat.mod_eq_of_lt hi]
  ·rw[List.getElem?_append_right (by omega),rep_get z n (i-z.length) (by rw[Nat.add_mul,Nat.one_mul]at h;omega)]
   have hm:i % z.length=(i-z.length) % z.length:=Nat.mod_eq_sub_mod (by omega)
   rw[hm]
theorem vT{zs:List D}{z:Array Value}(hr:aX (Mm M0 μ) w μ zs z.toList)(n k:Nat)(hk:zs.length=k)(c:Nat)(hc:c=n*k):
  aX (Mm M0 μ) w μ (rep n zs) ((Array.range c).map fun i=>z[i % z.size]!).toList:=by
 have hl:=hr.length;simp only[eP]at hl;subst hc;subst hk;refine aX.mk (by simp[rep]) fun i d v hd hv=>?_
 have hi:i<n*zs.length:=by
  rw[cH]at hd;obtain⟨h,_⟩:=hd;simpa[rep]using h
 unfold rep at hd;rw[rep_get zs n i hi]at hd;have hpos:0<zs.length:=by
  rcases Nat.eq_zero_or_pos zs.length with h0|h0
  ·rw[h0]at hi;simp at hi
  ·exact h0
 have hm:i % zs.length<z.size:=by rw[hl];exact Nat.mod_lt _ hpos
 have hv':v=z[i % zs.length]'hm:=by
  simp only[Array.toList_map,gX,aG]at hv;obtain⟨j,hj,rfl⟩:=hv;have:j=i:=by
   have hj':(List.range (n*zs.length))[i]?=some j:=by simpa using hj
   rw[cH]at hj';obtain⟨_,hj'⟩:=hj';simpa using hj'.symm
  subst this;rw[getElem!_pos z (j % z.size) (by rw[hl];rw[hl]at hm;exact hm)]
  simp only[hl]
 refine hr.at hd ?_;rw[hv'];simp[hm]
theorem op_bsl(h:Rel E M0 w0 N μ a w x){t e:TypeId}{len s:Nat}{ps:Array (Nat×Operand)}{zd:D}{zc:List D}(hu:E.P.underlying t=some (.slice e))(hsz:iE E.P e=some s)
  (hz:iR E.P e=some zd) (hzc:zd.cells?=some zc) (hle:Nat.ble (len*s) 16777216=true) (hzl:Nat.beq zc.length s=true) {l:List (Nat×Nat×Arg)}
  (hl:ps.toList.mapM (fun(p:Nat×Operand)=>do
    let a ←cS p.2
    some (p.1*s,s,a))=some l) {d:D} {x':AS}
  (hs:step E.G (.bsl len s (wX len s zc) l) x=some (d,x')):gd E M0 w0 N μ w x a d x' w (do pure (.value (←Instr.buildSlice t len (ps.map fun(i,x)=>(i,a.eval x))))):=by
 simp only[stq,aB,aA,aG]at hs;obtain⟨out,ho,he⟩:=hs;cases he;have hzl':=aR hzl;have hle':=cO hle;simp only[iR,aB,aA]at hz;obtain⟨i,hi,v,hv,hz⟩:=hz;have hzr:=lP hzc (kC (M0:=M0) (w:=w) (μ:=μ) _ _ _ hz)
 let zs:Array Value:=if len*s=0 then #[]else v.cells
 have hrep:aX (Mm M0 μ) w μ (wX len s zc) ((Array.range (len*s)).map fun i=>zs[i % zs.size]!).toList:=by
  unfold wX;by_cases h0:len*s=0
  ·rw[h0];simp;exact aX.nil
  ·rw[iY h0];have:zs=v.cells:=aD h0;rw[this];exact vT hzr len s hzl' _ rfl
 obtain⟨arr,hfill,hr⟩:=tH h (fun i=>some (i*s,s)) _ (fun p q hq=>by
  simp only[aB,aA,aC]at hq;obtain⟨ar,har,rfl⟩:=hq;exact⟨rfl,har⟩) ps.toList l hl _ out _ hrep ho
 obtain⟨μ',hR,hx,hm,hmle,hf⟩:=new_fix h hr (thaw0 _) (e:=e) (ty:=0) (fun k hk=>by first|exact Nat.add_right_cancel hk|exact absurd hk.symm (Nat.succ_ne_zero k)) (w':={ w with heap:=w.heap.push (.cells arr e) }) rfl
 have hol:out.length=len*s:=by
  have place_len:∀(l:List (Nat×Nat×D)) (cs out:List D),place cs l=some out→out.length=cs.length:=by
   intro l
   induction l with
   | nil=>intro cs out h;simp[place]at h;subst h;rfl
   | cons p l ih=>
    intro cs out h;obtain⟨o1,n1,d1⟩:=p;simp only[place]at h;split at h
    ·rename_i c hc;cases hcond:(Nat.beq c.length n1&&Nat.ble (o1+n1) cs.length)<;>rw[hcond]at h
     ·cases h
     ·rw[ih _ _ h,iT]
    ·cases h
  rw[place_len _ _ _ ho];unfold wX;by_cases h0:len*s=0
  ·rw[h0];simp
  ·rw[iY h0];simp[rep,hzl']
 refine⟨.slice (some ⟨w.heap.size,0,none⟩) len len,_,μ',.inl (bP ?_),?_,hR,hf⟩
 ·have hp:(ps.map fun(p:Nat×Operand)=>(p.1,a.eval p.2)).toList=ps.toList.map fun p=>(p.1,a.eval p.2):=by simp
  have hgt:¬len*s>2 ^ 24:=by omega
  simp only[Instr.buildSlice,aY,aZ hu,aM,dO hsz,hgt,eV];rw[show(ps.map fun(x:Nat×Operand)=>match x with|(i,x)=>(i,a.eval x))=ps.map fun p=>(p.1,a.eval p.2) from rfl,hp]
  by_cases h0:len*s=0
  ·have hz0:zs = #[]:=aH h0;rw[hz0]at hfill;simp only[h0,if_true,aY,bO,aM]at hfill ⊢;rw[hfill];simp[newRow]
  ·have hz0:zs=v.cells:=aD h0;rw[hz0]at hfill;simp only[h0,eV,aY,bO,aM,zeroValue,eE hi,hv];rw[hfill];simp[newRow]
 ·simp only[aP];exact⟨_,_,hm,rfl,rfl,aJ _,by simp[hol]⟩
theorem op_mks(h:Rel E M0 w0 N μ a w x){t e:TypeId}{i:TypeInfo}{zd:D}{zc:List D}(hu:E.P.underlying t=some (.slice e))(hi:E.P.info? e=some i)
  (hz:iR E.P e=some zd) (hzc:zd.cells?=some zc) (hzl:Nat.beq zc.length i.size=true) {o p:Operand} {lr cr:Arg} (h2:cS o=some lr) (h3:cS p=some cr) {d:D} {x':AS}
  (hs:step E.G (.mks i.size i.bytes zc lr cr) x=some (d,x')):gd E M0 w0 N μ w x a d x' w (do pure (.value (←Instr.makeSlice t (a.eval o) (a.eval p)))):=by
 have hv:=cP h h2;have hp:=cP h h3;simp only[stq]at hs;split at hs
 ·rename_i k l j c he1 he2;rw[he1]at hv;rw[he2]at hp;simp only[aP]at hv hp;split at hs
  ·rename_i hcond;obtain⟨c1,c2,c3,c4⟩:=hcond;cases hs;have hzl':=aR hzl;simp only[iR,aB,aA]at hz;obtain⟨i',hi',v,hv',hz⟩:=hz;rw[hi]at hi';cases hi';have hzr:=lP hzc (kC (M0:=M0) (w:=w) (μ:=μ) _ _ _ hz);have wl:IntKind.i64.wrap l=l:=by rw[←kH];exact kW (by simp only[loK];omega) (by simp only[hiK];omega)
   have wc:IntKind.i64.wrap c=c:=by rw[←kH];exact kW (by simp only[loK];omega) (by simp only[hiK];omega)
   let n:=c.toNat*i.size
   let zs:Array Value:=if n=0 then #[]else v.cells
   have hrep:aX (Mm M0 μ) w μ (rep c.toNat zc) ((Array.range n).map fun k=>zs[k % zs.size]!).toList:=by
    by_cases h0:n=0
    ·have e0:(rep c.toNat zc)=[]:=by
      apply dY;simp[rep,hzl'];simpa[n]using h0
     rw[h0,e0];simp;exact aX.nil
    ·have:zs=v.cells:=aD h0;rw[this];exact vT hzr c.toNat i.size hzl' n rfl
   obtain⟨μ',hR,hx,hm,hmle,hf⟩:=new_fix h hrep (thaw0 _) (e:=e) (ty:=0) (fun k hk=>by first|exact Nat.add_right_cancel hk|exact absurd hk.symm (Nat.succ_ne_zero k)) (w':={ w with heap:=w.heap.push (.cells ((Array.range n).map fun k=>zs[k % zs.size]!) e) }) rfl
   refine⟨.slice (some ⟨w.heap.size,0,none⟩) l.toNat c.toNat,_,μ',.inl (bP ?_),?_,hR,hf⟩
   ·have hno:((decide (c<0)||decide ((i.bytes:Int)*c>2 ^ 48))||decide (l<0)||decide (l>c))=false:=by
     simp only[Bool.or_eq_false_iff,bX];refine⟨⟨⟨by omega,by omega⟩,by omega⟩,by omega⟩
    simp only[Instr.makeSlice,hv,hp,asInt,asIntOf,aY,aZ hu,aM,bO,eE hi,wl,wc];rw[aD (by rw[hno];simp)]
    simp only[aY,aM,run_askRoom,dO (show iE E.P e=some i.size by simp[iE,hi]),bO]
    rw[show c.toNat*i.size=n from rfl]
    by_cases h0:n=0
    ·have hz0:zs = #[]:=aH h0;rw[hz0];simp[h0,newRow]
    ·have hz0:zs=v.cells:=aD h0;rw[hz0];simp[h0,newRow,zeroValue,eE hi,hv']
   ·simp only[aP];exact⟨_,_,hm,rfl,rfl,by omega,by simp[rep,hzl']⟩
  ·cases hs
 ·cases hs
end
section
variable {E:Env} {M0:Nat→Prop} {w0:World} {N:Nat} {μ:Mu} {M:Nat→Prop} {a:Act} {w:World} {x:AS}
theorem lX{P:Program}{b o:Nat}{cs:List D}(hc:∀(i:Nat) (e:D),cs[i]?=some e→∃v',w.cell? ⟨b,o+i,none⟩=some v'∧aP (Mm M0 μ) w μ e v')(n:Nat)(hn:n≤cs.length):
  ∃arr:Array Value,(loadCells ⟨b,o,none⟩ n).run P w = .ok arr w∧aX (Mm M0 μ) w μ (cs.take n) arr.toList:=by
 have hall:∀j,j<n→∃v',w.cell? ⟨b,o+j,none⟩=some v'∧∀e,cs[j]?=some e→aP (Mm M0 μ) w μ e v':=by
  intro j hj;obtain⟨v',hv',hr⟩:=hc j cs[j] (aI (by omega))
  refine⟨v',hv',fun e he=>?_⟩
  rw[aI (by omega)]at he;cases he;exact hr
 let f:Nat→Value:=fun j=>(w.cell? ⟨b,o+j,none⟩).getD undef
 have hrun:=run_loadCells (P:=P) w ⟨b,o,none⟩ n f (fun j hj=>by
  obtain⟨v',hv',_⟩:=hall j hj;rw[Addr.add_lit,hv'];simp[f,hv'])
 refine⟨_,hrun,aX.mk (by simp;omega) fun j e v he hv=>?_⟩
 simp only[gX,aG]at hv;obtain⟨k,hk,rfl⟩:=hv;have hk':k=j∧j<n:=by
  rw[cH]at hk;obtain⟨h3,h4⟩:=hk;simp at h3 h4;exact⟨h4.symm,h3⟩
 obtain⟨rfl,hj⟩:=hk';obtain⟨v',hv',hr⟩:=hall k hj;have:f k=v':=by simp[f,hv']
 rw[this];refine hr e ?_;rw[eL,aH hj]at he;exact he
theorem tN(h:Rel E M0 w0 N μ a w x){nm:Nat}{blk:Blk}{cs:List D}(hs:sget x.s nm=some blk)(hb:dX blk=some cs){l:Loc}(hl:μ nm=some l){b:Nat}(hlb:l.blk=some b)(off:Nat):
  ∀(i:Nat) (e:D),(cs.drop off)[i]?=some e→∃v',w.cell? ⟨b,off+i,none⟩=some v'∧aP (Mm M0 μ) w μ e v':=by
 obtain⟨l',h1,h2,h3⟩:=mQ h hl hs hb;rw[hl]at h1;cases h1;obtain⟨_,_,vs,e,fz,h6,h7,h8,h9,h10⟩:=h3 b hlb;intro i d hi;rw[List.getElem?_drop]at hi;obtain⟨v',hv',hr⟩:=aX.get _ d h10 hi;rw[eL]at hv';split at hv'
 ·exact⟨v',cell_in h6 hv',hr⟩
 ·cases hv'
theorem mA{P:Program}{sz n:Nat}{ad:Option Addr}{len cap:Nat}(h0:n*sz=0)(w:World):(Builtin.firstCells sz n (.slice ad len cap)).run P w = .ok #[] w:=by
 cases ad<;>simp[Builtin.firstCells,loadCells,loadCellsFrom,h0]
theorem tY(h:Rel E M0 w0 N μ a w x){sz:Nat}{d:D}{cs:List D}{n:Nat}{v:Value}(hs:cZ x.s sz d=some (cs,n))(hv:aP (Mm M0 μ) w μ d v)(P:Program):
  (Builtin.lenOf v).run P w = .ok n w∧cs.length=n*sz∧∀k,k≤n→∃arr:Array Value,(Builtin.firstCells sz k v).run P w = .ok arr w∧aX (Mm M0 μ) w μ (cs.take (k*sz)) arr.toList:=by
 cases d<;>simp only[cZ,aC,dZ,reduceCtorEq]at hs
 ·rename_i s;cases hz:Nat.beq sz 1<;>rw[hz]at hs
  ·cases hs
  have hz':=aR hz;subst hz';simp only[aS,aC,dZ]at hs;obtain⟨rfl,rfl⟩:=hs;simp only[aP]at hv;subst hv;refine⟨by simp[Builtin.lenOf];rfl,by simp[bytesOf],fun k hk=>⟨_,rfl,?_⟩⟩
  refine aX.mk ?_ fun i d v hd hv=>?_
  ·simp[bytesOf,ByteArray.size,ByteArray.data_extract,Array.size_extract]
  ·simp only[bytesOf,dL]at hd;rw[eL]at hd;split at hd
   ·rename_i hik;simp only[gX,aG]at hd;obtain⟨b,hb,rfl⟩:=hd;have:v = .int .u8 b.toNat:=by
     simp[ByteArray.data_extract,Array.toList_extract,List.extract_eq_take_drop,eL,hik,hb]at hv;exact hv.symm
    rw[this];simp only[aP]
   ·cases hd
 ·obtain⟨rfl,rfl⟩:=hs;simp only[aP]at hv;subst hv;refine⟨by simp[Builtin.lenOf],by simp,fun k hk=>?_⟩
  have hk0:k=0:=by omega
  subst hk0;exact⟨#[],mA (by simp) w,by simp;exact aX.nil⟩
 ·rename_i ex len c;cases hle:Nat.ble (len*sz) c.length<;>rw[hle]at hs
  ·cases hs
  have hle':=cO hle;simp only[aS,aC,dZ]at hs;obtain⟨rfl,rfl⟩:=hs;simp only[aP]at hv;obtain⟨ad,cap,rfl,h1,h2,h3⟩:=hv;refine⟨by simp[Builtin.lenOf],by simp;omega,fun k hk=>?_⟩
  by_cases h0:k*sz=0
  ·exact⟨#[],mA h0 w,by rw[h0];simp;exact aX.nil⟩
  rcases h3 with h3|⟨b,o,rfl,h4,h5,h6⟩
  ·have:k=0:=by omega
   subst this;simp at h0
  have hkl:k*sz≤len*sz:=Nat.mul_le_mul_right _ hk;obtain⟨arr,hrun,hr⟩:=lX (P:=P) (M0:=M0) (μ:=μ) (cs:=c) (b:=b) (o:=o) (w:=w) (fun i e hi=>by
   obtain⟨v',hv',hr⟩:=iD.get i e h6 hi;exact⟨v',hv',aP.mono (Ext.refl (Mm M0 μ) w) e v' (mu0_le μ) hr⟩) (k*sz) (by omega)
  refine⟨arr,by simpa[Builtin.firstCells]using hrun,?_⟩
  rw[List.take_take,Nat.min_eq_left hkl];exact hr
 ·rename_i nm off z len cap;simp only[aB,aA]at hs;obtain⟨blk,hg,c,hb,hs⟩:=hs;cases hle:(Nat.beq z sz&&Nat.ble (off+len*sz) c.length)<;>rw[hle]at hs
  ·cases hs
  simp only[bE]at hle;have hz':=aR hle.1;have hle':=cO hle.2;subst hz';simp only[aS,aC,dZ]at hs;obtain⟨rfl,rfl⟩:=hs;simp only[aP]at hv;obtain⟨l,b,h1,h2,rfl,h3,h4⟩:=hv;refine⟨by simp[Builtin.lenOf],by simp;omega,fun k hk=>?_⟩
  have hkl:k*z≤len*z:=Nat.mul_le_mul_right _ hk;obtain⟨arr,hrun,hr⟩:=lX (P:=P) (cs:=c.drop off) (tN h hg hb h1 h2 off) (k*z) (by simp;omega)
  refine⟨arr,by simpa[Builtin.firstCells]using hrun,?_⟩
  rw[List.take_take,Nat.min_eq_left hkl];exact hr
 ·rename_i nm off z len;simp only[aB,aA]at hs;obtain⟨blk,hg,c,hb,hs⟩:=hs;cases hle:(Nat.beq z sz&&Nat.ble (off+len*sz) c.length)<;>rw[hle]at hs
  ·cases hs
  simp only[bE]at hle;have hz':=aR hle.1;have hle':=cO hle.2;subst hz';simp only[aS,aC,dZ]at hs;obtain⟨rfl,rfl⟩:=hs;simp only[aP]at hv;obtain⟨⟨lb,lc⟩,cap,h1,rfl,h3,h4,h5⟩:=hv;refine⟨by simp[Builtin.lenOf],by simp;omega,fun k hk=>?_⟩
  have hkl:k*z≤len*z:=Nat.mul_le_mul_right _ hk;cases lb with
  | none=>
   have:cap=0:=h5 rfl;have:k=0:=by omega
   subst this;exact⟨#[],mA (by simp) w,by simp;exact aX.nil⟩
  | some b=>
   obtain⟨arr,hrun,hr⟩:=lX (P:=P) (cs:=c.drop off) (tN h hg hb h1 rfl off) (k*z) (by simp;omega)
   refine⟨arr,by simpa[Builtin.firstCells]using hrun,?_⟩
   rw[List.take_take,Nat.min_eq_left hkl];exact hr
theorem growBy_le(need:Nat):∀(r c:Nat),c≤2*need+768→Builtin.growBy need r c≤2*need+768
 | 0,c,h=>by simpa[Builtin.growBy]using h
 | r+1,c,h=>by
  simp only[Builtin.growBy];split
  ·exact h
  ·exact growBy_le need r _ (by omega)
theorem nextslicecap_le{need cap:Nat}(h:cap<need):Builtin.nextslicecap need cap≤2*need+768:=by
 unfold Builtin.nextslicecap;split
 ·omega
 ·split
  ·omega
  ·exact growBy_le need 4 cap (by omega)
structure AppT (P:Program) (t u e:TypeId) (i:TypeInfo) (z:Value):Prop where
 tu:P.underlying t=some (.slice e)
 uu:(∃e',P.underlying u=some (.slice e'))∨P.underlying u=some .string
 ei:P.info? e=some i
 zv:i.zero=some z
 zs:z.cells.size=i.size
theorem kA{P:Program}{t u e ty:TypeId}{i:TypeInfo}{z:Value}(ht:AppT P t u e i z){base:Option Addr}{len cap n:Nat}{y:Value}{w:World}(hn:(Builtin.lenOf y).run P w = .ok n w)
  (hle:len+n≤cap) {new:Array Value} (hf:(Builtin.firstCells i.size n y).run P w = .ok new w) :
  (Builtin.append_ #[t,u] ty #[.slice base len cap,y]).run P w =
   (do
     if let some a:=base then storeCells (a.add (len*i.size)) new.toList
     pure (.slice base (len+n) cap):Sem Value).run P w:=by
 have hsz:iE P e=some i.size:=by simp[iE,ht.ei]
 rcases ht.uu with⟨e',he⟩|he
 all_goals
  simp only[Builtin.append_,List.getElem?_toArray,aT,List.getElem?_cons_succ,aY,aZ ht.tu,aM,dO hsz,aZ he,bO,cN,eV,hn,
   bR,if_true]
  rw[aH hle];simp only[aY,hf,aM];cases base<;>rfl
theorem rT{P:Program}{t u e ty:TypeId}{i:TypeInfo}{z:Value}(ht:AppT P t u e i z){base:Option Addr}{len cap n:Nat}{y:Value}{w:World}(hn:(Builtin.lenOf y).run P w = .ok n w)
  (hle:cap<len+n) (hroom:room (len+n) i.bytes=true) {old new:Array Value}
  (ho:(Builtin.firstCells i.size len (.slice base len cap)).run P { w with drawn:=w.drawn+1 } = .ok old { w with drawn:=w.drawn+1 })
  (hf:(Builtin.firstCells i.size n y).run P { w with drawn:=w.drawn+1 } = .ok new { w with drawn:=w.drawn+1 }) :
  ∃c,len+n≤c∧(Builtin.append_ #[t,u] ty #[.slice base len cap,y]).run P w =
   .ok (.slice (some ⟨w.heap.size,0,none⟩) (len+n) c) { w with drawn:=w.drawn+1,heap:=w.heap.push (.cells (old++new++Builtin.zeroCells z.cells (c-(len+n))) e) }:=by
 have hsz:iE P e=some i.size:=by simp[iE,ht.ei]
 simp only[room,bE]at hroom;have r1:=cO hroom.1;have r2:=cO hroom.2;have h1:¬(((len+n:Nat):Int)>IntKind.i64.max∧i.bytes=0):=by
  simp only[IntKind.max_i64];omega
 have h1':¬(((len+n:Nat):Int)>IntKind.i64.max∧(False∨i.bytes=0)):=by simpa using h1
 have h2:¬Builtin.nextslicecap (len+n) cap*i.bytes>2 ^ 48:=by
  have h3:=nextslicecap_le hle;have h4:Builtin.nextslicecap (len+n) cap*i.bytes≤(2*(len+n)+768)*4096:=Nat.mul_le_mul h3 r2;omega
 refine⟨len+n+(w.tape w.drawn (.appendCap (len+n) cap e)) % (2 ^ 63-(len+n)),by omega,?_⟩
 rcases ht.uu with⟨e',he⟩|he
 all_goals
  simp only[Builtin.append_,List.getElem?_toArray,aT,List.getElem?_cons_succ,aY,aZ ht.tu,aM,dO hsz,aZ he,bO,cN,eV,hn,
   bR,if_true,eE ht.ei]
  rw[aD (by omega)]
  simp only[aY,Sem.run_ite,eE ht.ei,aM];rw[aD h1',aD h2];simp only[aY,run_choose,Question.forced,cN,eV,aM,Question.cut,run_askRoom,eE ht.ei,ho,hf,zeroValue,ht.zv,bO,newRow,run_newObj]
theorem Rel.grown(h:Rel E M0 w0 N μ a w x)(m:Nat)(l:Loc)(b:Nat)(hl:μ m=some l)(hlb:l.blk=some b)(hlive:(sget x.s m).isSome=true)(blk:Blk){w':World}{x':AS}
  (hsz:w'.heap.size=w.heap.size) (hheap:∀k,k≠b→w'.heap[k]?=w.heap[k]?)
  (ht:∀n,tget x'.t n=tget x.t n) (hs:∀n,sget x'.s n=if n=x.c then some blk else if n=m then none else sget x.s n) (hc:x'.c=x.c+1) (hd:x'.d=x.d)
  (hB:Ext (Mm M0 μ) w (Mm M0 (dR μ x.c (some l))) w'→fV μ (dR μ x.c (some l))→rR E.P (Mm M0 (dR μ x.c (some l))) w' (dR μ x.c (some l)) x.c blk) (he:uP w w':=by exact⟨rfl,rfl⟩) :
  Ext (Mm M0 μ) w (Mm M0 (dR μ x.c (some l))) w'∧Rel E M0 w0 N (dR μ x.c (some l)) a w' x'∧Fr x.c x.s μ w x'.c x'.s (dR μ x.c (some l)) w':=by
 have hM:=h.isM hl hlb;have hle:=h.free_le (aJ _) (some l);have hnew:∀b,b<w.heap.size→Nm (dR μ x.c (some l)) b→Nm μ b:=fun b' hlt ⟨k,l',hl',hlb'⟩=>by
  by_cases hk:k=x.c
  ·simp only[dR,aH hk]at hl';cases hl';exact⟨m,l,hl,hlb'⟩
  ·simp only[dR,aD hk]at hl';exact⟨k,l',hl',hlb'⟩
 have hx:Ext (Mm M0 μ) w (Mm M0 (dR μ x.c (some l))) w':=ext_mu (by omega) (fun k _ hk=>hheap k fun e=>hk (e▸hM)) hle hnew
 have hi:∀n,n≠x.c→(sget x'.s n).isSome=true→n≠m∧(sget x.s n).isSome=true:=fun n hn h1=>by
  rw[hs,aD hn]at h1;by_cases e:n=m
  ·rw[aH e]at h1;cases h1
  ·rw[aD e]at h1;exact⟨e,h1⟩
 have hmu:∀n,n≠x.c→dR μ x.c (some l) n=μ n:=fun n hn=>by simp[dR,hn]
 have hmc:dR μ x.c (some l) x.c=some l:=by simp[dR]
 refine⟨hx,{h with
  size:=by have:=h.size;omega
  old:=fun k hk=>by rw[hheap k fun e=>by have:=h.own m l b hl hlb;omega];exact h.old k hk
  env:=⟨he.1.trans h.env.1,he.2.trans h.env.2⟩
  defers:=by rw[hd];exact iL.mono hx hle h.defers
  tm:=fun n=>by rw[ht];exact aP.mono hx _ _ hle (h.tm n)
  own:=fun nm l' b' h1 h2=>by
   rw[hsz];by_cases e:nm=x.c
   ·rw[e,hmc]at h1;cases h1;exact h.own m _ b' hl h2
   ·rw[hmu nm e]at h1;exact h.own nm l' b' h1 h2
  lt:=fun nm l' hl'=>by
   rw[hc];by_cases e:nm=x.c
   ·omega
   ·rw[hmu nm e]at hl';have:=h.lt nm l' hl';omega
  inj:=fun n k l1 l2 b' s1 s2 h1 h2 h3 h4=>by
   by_cases e1:n=x.c
   ·by_cases e2:k=x.c
    ·rw[e1,e2]
    ·rw[e1,hmc]at h1;cases h1;rw[hmu k e2]at h2;obtain⟨g1,g2⟩:=hi k e2 s2;exact absurd (h.inj k m l2 _ b' g2 hlive h2 hl h4 h3) g1
   ·by_cases e2:k=x.c
    ·rw[e2,hmc]at h2;cases h2;rw[hmu n e1]at h1;obtain⟨g1,g2⟩:=hi n e1 s1;exact absurd (h.inj n m l1 _ b' g2 hlive h1 hl h3 h4) g1
    ·rw[hmu n e1]at h1;rw[hmu k e2]at h2;exact h.inj n k l1 l2 b' (hi n e1 s1).2 (hi k e2 s2).2 h1 h2 h3 h4
  st:=fun k bk lk hlk hk=>by
   by_cases e:k=x.c
   ·rw[hs,aH e]at hk;cases hk;rw[e];exact hB hx hle
   ·obtain⟨g1,g2⟩:=hi k e (by rw[hk];rfl)
    rw[hs,aD e,aD g1]at hk;rw[hmu k e]at hlk;refine rR.mono hx hle (fun l' b' hl' hlb'=>⟨hheap b' fun e'=>?_,Mm.mono hle⟩) (h.st k bk lk hlk hk)
    subst e';exact g1 (h.inj k m l' l b' g2 hlive hl' hl hlb' hlb) },
  ⟨by omega,fun k hk hn=>hheap k fun e=>hn (e▸⟨m,l,hlive,hl,hlb⟩),fun k _ ⟨n,l',h1,h2,h3⟩=>?_,hle,by rw[hc];omega,fun n hn e=>by rw[hmu n (by omega)];exact e,hnew⟩⟩
 by_cases e:n=x.c
 ·rw[e,hmc]at h2;cases h2;exact⟨m,l,hlive,hl,h3⟩
 ·exact⟨n,l',(hi n e h1).2,by rw[←hmu n e];exact h2,h3⟩
theorem wU{α:Type}:∀(us vs:List α),us.length≤vs.length→∀(pre:List α),eS (pre++vs) pre.length us=pre++us++vs.drop us.length
 | [],vs,_,pre=>by simp[eS]
 | u::us,[],h,pre=>by simp at h
 | u::us,v::vs,h,pre=>by
  simp only[aU]at h;simp only[eS];rw[show(pre++v::vs).set pre.length u=(pre++[u])++vs by simp]
  have:=wU us vs (by omega) (pre++[u])
  rw[show(pre++[u]).length=pre.length+1 by simp]at this
  rw[this];simp
theorem rZ(z:Array Value)(n:Nat):(Builtin.zeroCells z n).size=n*z.size:=by simp[Builtin.zeroCells]
theorem op_app(h:Rel E M0 w0 N μ a w x){t u e:TypeId}{i:TypeInfo}{z:Value}(ht:AppT E.P t u e i z)(h0:Nat.beq i.size 0=false){o p:Operand}{ar pr:Arg}(h2:cS o=some ar)(h3:cS p=some pr)
  {d:D} {x':AS} (hs:step E.G (.app i.size i.bytes (e+1) ar pr) x=some (d,x')) (ty:TypeId):gd E M0 w0 N μ w x a d x' w (do pure (.value (←Builtin.append_ #[t,u] ty #[a.eval o,a.eval p]))):=by
 have hv:=cP h h2;have hp:=cP h h3;have hpos:0<i.size:=by
  rcases Nat.eq_zero_or_pos i.size with e0|e0
  ·rw[e0]at h0;simp at h0
  ·exact e0
 generalize a.eval o=v at *;generalize a.eval p=y at *;simp only[stq,nG,aB,aA]at hs;obtain⟨⟨ys,n⟩,hsc,hs⟩:=hs
 let w1:World:={ w with drawn:=w.drawn+1 }
 have hw1:Rel E M0 w0 N μ a w1 x:=h.world rfl;have hx1:Ext (Mm M0 μ) w (Mm M0 μ) w1:=⟨aJ _,fun _ _ _=>rfl,fun _ _ hm=>hm⟩
 have hv1:aP (Mm M0 μ) w1 μ (ar.ev E.G x.t) v:=aP.mono hx1 _ _ (fV.refl _) hv;have hp1:aP (Mm M0 μ) w1 μ (pr.ev E.G x.t) y:=aP.mono hx1 _ _ (fV.refl _) hp;obtain⟨hln,hyl,hyc⟩:=tY h hsc hp E.P;obtain⟨_,_,hyc1⟩:=tY hw1 hsc hp1 E.P;obtain⟨new,hnew,hnr⟩:=hyc n (aJ _);obtain⟨new1,hnew1,hnr1⟩:=hyc1 n (aJ _);rw[cW (by omega)]at hnr hnr1
 have hnl:=hnr.length;have hnl1:=hnr1.length;simp only[eP]at hnl hnl1
 -- growth: a new block that begins with what was there and what is brought
 have grow:∀(base:Option Addr) (len cap:Nat) (cs:List D) (old:Array Value),v = .slice base len cap→cap<len+n→room (len+n) i.bytes=true →
   (Builtin.firstCells i.size len v).run E.P w1 = .ok old w1→aX (Mm M0 μ) w1 μ cs old.toList→cs.length=len*i.size →
   gd E M0 w0 N μ w x a (.gs x.c 0 i.size (len+n)) (x.add (.grow (e+1) (cs++ys))) w (do pure (.value (←Builtin.append_ #[t,u] ty #[v,y]))):=by
  intro base len cap cs old hb hlt hroom hold hcr hcl;subst hb;obtain⟨c,hc,hrun⟩:=rT (ty:=ty) ht hln hlt hroom hold hnew1;have hol:=hcr.length;simp only[eP]at hol
  let arr:=old++new1++Builtin.zeroCells z.cells (c-(len+n))
  have hsz:arr.size=c*i.size:=by
   simp only[arr,Array.size_append,rZ,hol,hnl1,hcl,hyl,ht.zs];rw[←Nat.add_mul,←Nat.add_mul];congr 1;omega
  have hlenc:(cs++ys).length=(len+n)*i.size:=by simp[hcl,hyl,Nat.add_mul]
  obtain⟨μ',hR,hx,hm,hle,hf⟩:=new_grow hw1 (cs:=cs++ys) (vs:=arr) (by rw[hlenc,hsz];exact Nat.mul_le_mul_right _ hc) (e:=e) (fz:=(0,0)) (by
    have:arr.toList.take (cs++ys).length=old.toList++new1.toList:=by
     have e1:arr.toList=(old.toList++new1.toList)++(Builtin.zeroCells z.cells (c-(len+n))).toList:=by simp[arr]
     rw[e1,List.take_left' (by simp[hol,hnl1])]
    rw[this];exact hcr.append hnr1) (thaw0 _) (ty:=e+1) (fun k hk=>by first|exact Nat.add_right_cancel hk|exact absurd hk.symm (Nat.succ_ne_zero k)) (w':={ w with drawn:=w.drawn+1,heap:=w.heap.push (.cells arr e) }) rfl
  refine⟨_,_,μ',.inl (bP hrun),?_,hR,⟨hf.size,hf.same,hf.live,hf.mu,hf.cle,hf.kept,hf.new⟩⟩;simp only[aP];exact⟨_,c,hm,rfl,hc,by simp[hsz],fun hn=>by cases hn⟩
 split at hs
 · -- nil
  rename_i he;rw[he]at hv hv1;simp only[aP]at hv;subst hv;cases hn0:Nat.beq n 0<;>rw[hn0]at hs
  ·cases hroom:room n i.bytes<;>rw[hroom]at hs
   ·cases hs
   simp only[cF,aS]at hs;cases hs;have hnp:n≠0:=fun e0=>by subst e0;simp at hn0
   have:=grow none 0 0 [] #[] rfl (by omega) (by rw[bK];exact hroom) (mA (by simp) w1) aX.nil (by simp)
   rwa [bK]at this
  ·have:=aR hn0;subst this;cases hs;refine hU.of h (bP (v:=.slice none 0 0) ?_) (by simp only[aP])
   rw[kA ht hln (aJ _) hnew];rfl
 · -- memory that is not written
  rename_i ex len cs he;rw[he]at hv hv1;have hvv:=hv;simp only[aP]at hv;obtain⟨ad,cap,rfl,k1,k2,k3⟩:=hv;cases hn0:Nat.beq n 0<;>rw[hn0]at hs
  ·cases hcond:(ex&&room (len+n) i.bytes&&Nat.ble (len*i.size) cs.length)<;>rw[hcond]at hs
   ·cases hs
   simp only[bE]at hcond;obtain⟨⟨c1,c2⟩,c3⟩:=hcond;simp only[cF,aS]at hs;cases hs;have hnp:n≠0:=fun e0=>by subst e0;simp at hn0
   have hcap:=k2 c1;obtain⟨_,_,hold⟩:=tY hw1 (show cZ x.s i.size (.sl ex len cs)=some (cs.take (len*i.size),len) by simp[cZ,c3]) hv1 E.P
   obtain⟨old,hold,hcr⟩:=hold len (aJ _);rw[cW (by simp;omega)]at hcr
   exact grow ad len cap (cs.take (len*i.size)) old rfl (by omega) c2 hold hcr (by have:=cO c3;simp;omega)
  ·have:=aR hn0;subst this;cases hs;have hnew0:new.toList=[]:=dY (by rw[eP];omega)
   refine hU.of h (bP (v:=.slice ad len cap) ?_) hvv;rw[kA ht hln (show len+0≤cap by omega) hnew]
   cases ad<;>simp[hnew0,storeCells]
 · -- a block of our own whose room is known
  rename_i m off zz len c he;rw[he]at hv hv1;have hvv:=hv;simp only[aP]at hv;obtain⟨l,b,k1,k2,rfl,k3,k4⟩:=hv;split at hs
  ·rename_i t0 cs hg;cases hz:Nat.beq zz i.size<;>rw[hz]at hs
   ·cases hs
   have hz':=aR hz;subst hz';cases hle:Nat.ble (len+n) c<;>rw[hle]at hs
   ·simp only[aS,cF]at hs;cases hcond:(room (len+n) i.bytes&&Nat.ble (off+len*i.size) cs.length)<;>rw[hcond]at hs
    ·cases hs
    simp only[bE]at hcond;obtain⟨c2,c3⟩:=hcond;have c3':=cO c3;simp only[aS]at hs;cases hs;have hlt:c<len+n:=by
     rcases Nat.lt_or_ge c (len+n) with hh|hh
     ·exact hh
     ·rw[bZ hh]at hle;cases hle
    obtain⟨_,_,hold⟩:=tY hw1 (show cZ x.s i.size (.ms m off i.size len c)=some ((cs.drop off).take (len*i.size),len) by simp[cZ,hg,dX,c3]) hv1 E.P
    obtain⟨old,hold,hcr⟩:=hold len (aJ _);rw[cW (by simp;omega)]at hcr
    exact grow (some ⟨b,off,none⟩) len c _ old rfl hlt c2 hold hcr (by simp;omega)
   ·have hle':=cO hle;simp only[aS,aG]at hs;obtain⟨blk',hst,he'⟩:=hs;cases he';obtain⟨w',hrun,hx,hR,hf⟩:=pQ h hg hst k1 k2 hnr;refine⟨.slice (some ⟨b,off,none⟩) (len+n) c,w',μ,.inl (bP ?_),?_,hR,hf⟩
    ·rw[kA ht hln hle' hnew];simp only[Addr.add_lit,aY,hrun,aM,bO]
    ·simp only[aP];exact⟨l,b,k1,k2,rfl,hle',k4⟩
  ·cases hs
 · -- a row that grows
  rename_i m off zz len he;rw[he]at hv hv1;have hvv:=hv;simp only[aP]at hv;obtain⟨⟨lb,lc⟩,cap,k1,rfl,k3,k4,k5⟩:=hv;split at hs
  ·rename_i t0 cs hg;cases hn0:Nat.beq n 0<;>rw[hn0]at hs
   ·simp only[cF]at hs;cases hcond:(Nat.beq zz i.size && !(ys.any eU))<;>rw[hcond]at hs
    ·cases hs
    simp only[bE,Bool.not_eq_true']at hcond;obtain⟨c1,c5⟩:=hcond;have c1':=aR c1;subst c1';simp only[aS]at hs;have hnp:n≠0:=fun e0=>by subst e0;simp at hn0
    have hB:=h.st m _ _ k1 hg;have hmul:(len+n)*i.size=len*i.size+n*i.size:=Nat.add_mul _ _ _;have hnpos:0<n*i.size:=Nat.mul_pos (by omega) hpos
    cases hfit:Nat.ble (off+(len+n)*i.size) cs.length<;>rw[hfit]at hs
    ·simp only[cF]at hs;cases hcond:(Nat.beq off 0&&Nat.ble (len*i.size) cs.length&&room (len+n) i.bytes)<;>rw[hcond]at hs
     ·cases hs
     simp only[bE]at hcond;obtain⟨⟨c2,c3⟩,c4⟩:=hcond;have c2':=aR c2;have c3':=cO c3;subst c2';simp only[aS]at hs;cases hs;have htl:(cs.take (len*i.size)).length=len*i.size:=by simp;omega
     by_cases hle:len+n≤cap
     · -- in place
      cases lb with
      | none=>have:=k5 rfl;omega
      | some b=>
       obtain⟨l,g1,g2⟩:=hB;rw[k1]at g1;cases g1;rcases g2 with⟨g2,_⟩|⟨b',vs,ee,fz,g2,g4,g5,g6,g7,g8,g9,g10⟩
       ·cases g2
       cases g2;simp only[bK]at k4;have hcc:(len+n)*i.size≤cap*i.size:=Nat.mul_le_mul_right _ hle;have hone:∀v∈new.toList,v.oneCell'=true:=sV c5 hnr
       simp only at g7 g8;obtain⟨w',cur',hrun,r1,r2,r3,r4,r5,re⟩:=jV E.P (len*i.size) new.toList 0 w vs g5 g6 (by simp;omega) hone
       have hlenc:(cs.take (len*i.size)++ys).length=(len+n)*i.size:=by rw[dD,htl,hyl,hmul]
       have hcurs:cur'.toList.take (cs.take (len*i.size)++ys).length=vs.toList.take (len*i.size)++new.toList:=by
        rw[r5,Nat.add_zero,hlenc,qV _ _ _ _ (by simp;omega)]
        have e1:vs.toList.take ((len+n)*i.size)=vs.toList.take (len*i.size)++(vs.toList.drop (len*i.size)).take (n*i.size):=by
         rw[hmul,List.take_add]
        have e2:(vs.toList.take (len*i.size)).length=len*i.size:=by simp;omega
        have e3:=wU new.toList ((vs.toList.drop (len*i.size)).take (n*i.size)) (by simp;omega) (vs.toList.take (len*i.size))
        rw[e2]at e3;rw[e1,e3];have e4:((vs.toList.drop (len*i.size)).take (n*i.size)).drop new.toList.length=[]:=by
         apply List.drop_eq_nil_of_le;simp;omega
        rw[e4,dB]
       have g9':aX (Mm M0 μ) w μ (cs.take (len*i.size)) (vs.toList.take (len*i.size)):=by
        have:=g9.take (len*i.size)
        rwa [List.take_take,Nat.min_eq_left c3']at this
       obtain⟨hx,hR,hf⟩:=h.grown m ⟨some b,lc⟩ b k1 rfl (by rw[hg];rfl) (.grow (bif Nat.beq t0 (e+1) then e+1 else 0) (cs.take (len*i.size)++ys)) (w':=w')
        (x':={ x with s:=sadd (sdel x.s m) x.c (.grow (bif Nat.beq t0 (e+1) then e+1 else 0) (cs.take (len*i.size)++ys)),c:=x.c+1 }) r1 r2 (fun n=>rfl) (fun n=>by rw[aW,iH]) rfl rfl (fun hx hle'=>
         ⟨⟨some b,lc⟩,by simp[dR],.inr ⟨b,cur',ee,fz,rfl,Mm.mono hle' g4,r3,by rw[r4];exact g6,by rw[r4];exact g7,by rw[hlenc];show _≤lc;omega,by
          rw[hcurs];exact(aX.mono hx _ _ hle' g9').append (aX.mono hx _ _ hle' hnr),by
          intro k hk;cases hb:Nat.beq t0 (e+1)<;>rw[hb]at hk
          ·cases hk
          ·exact g10 k ((aR hb).trans hk)⟩⟩) re
       refine⟨.slice (some ⟨b,0,none⟩) (len+n) cap,w',_,.inl (bP ?_),?_,hR,hf⟩
       ·rw[kA ht hln hle hnew];simp only[bJ,Addr.add_lit,bK,aY,hrun,aM,bO]
       ·simp only[aP];exact⟨⟨some b,lc⟩,cap,by simp[dR],rfl,hle,by simpa using k4,fun hn=>by cases hn⟩
     · -- moved
      obtain⟨_,_,hold⟩:=tY hw1 (show cZ x.s i.size (.gs m 0 i.size len)=some ((cs.drop 0).take (len*i.size),len) by
       have hb:Nat.ble (0+len*i.size) cs.length=true:=bZ (by omega)
       simp only[cZ,hg,dX,aB,aO,fG,Bool.true_and,hb,aS]) hv1 E.P
      obtain⟨old,hold,hcr⟩:=hold len (aJ _);rw[cW (by simp;omega),fU]at hcr
      obtain⟨c,hc,hrun⟩:=rT (ty:=ty) ht hln (by omega) c4 hold hnew1
      have hol:=hcr.length;simp only[eP]at hol;rw[htl]at hol
      let arr:=old++new1++Builtin.zeroCells z.cells (c-(len+n))
      have hsz:arr.size=c*i.size:=by
       simp only[arr,Array.size_append,rZ,hol,hnl1,hyl,ht.zs];rw[←Nat.add_mul,←Nat.add_mul];congr 1;omega
      obtain⟨hL,hLf⟩:=hw1.less (s':=sdel x.s m) (fun n b hb=>by
       rw[iH]at hb;by_cases e:n=m
       ·rw[aH e]at hb;cases hb
       ·rwa [aD e]at hb)
      have hlenc:(cs.take (len*i.size)++ys).length=(len+n)*i.size:=by rw[dD,htl,hyl,hmul]
      obtain⟨μ',hR,hx,hm,hle',hf⟩:=new_grow hL (cs:=cs.take (len*i.size)++ys) (vs:=arr) (by rw[hlenc,hsz];exact Nat.mul_le_mul_right _ hc) (e:=e) (fz:=(0,0)) (by
        have:arr.toList.take (cs.take (len*i.size)++ys).length=old.toList++new1.toList:=by
         have e1:arr.toList=(old.toList++new1.toList)++(Builtin.zeroCells z.cells (c-(len+n))).toList:=by simp[arr]
         rw[e1,List.take_left' (by simp only[dD,eP,hol,hnl1,hlenc];omega)]
        rw[this];exact hcr.append hnr1) (thaw0 _) (ty:=bif Nat.beq t0 (e+1) then e+1 else 0) (fun k hk=>by
         cases hb:Nat.beq t0 (e+1)<;>rw[hb]at hk
         ·cases hk
         ·simp only[aS]at hk;exact Nat.add_right_cancel hk) (w':={ w with drawn:=w.drawn+1,heap:=w.heap.push (.cells arr e) }) rfl
      refine⟨_,_,μ',.inl (bP hrun),?_,hR,⟨(hLf.trans hf).size,(hLf.trans hf).same,(hLf.trans hf).live,(hLf.trans hf).mu,(hLf.trans hf).cle,(hLf.trans hf).kept,(hLf.trans hf).new⟩⟩;simp only[aP];exact⟨_,c,hm,rfl,hc,by simp[hsz],fun hn=>by cases hn⟩
    · -- it fits among what is known
     have hfit':=cO hfit;simp only[aS,aG]at hs;obtain⟨blk',hst,he'⟩:=hs;cases he';cases lb with
     | none=>
      obtain⟨l,g1,g2⟩:=hB;rw[k1]at g1;cases g1;rcases g2 with⟨_,g3,_⟩|⟨b',vs,ee,fz,g2,_⟩
      ·rw[g3]at hfit';simp at hfit';omega
      ·cases g2
     | some b=>
      have hcap:len+n≤cap:=by
       obtain⟨l,g1,g2⟩:=hB;rw[k1]at g1;cases g1;rcases g2 with⟨g2,_⟩|⟨b',vs,ee,fz,g2,g4,g5,g6,g7,g8,g9,g10⟩
       ·cases g2
       ·simp only at g8 k4;exact Nat.le_of_mul_le_mul_right (show(len+n)*i.size≤cap*i.size by omega) hpos
      obtain⟨w',hrun,hx,hR,hf⟩:=pQ h hg hst k1 rfl hnr;refine⟨.slice (some ⟨b,off,none⟩) (len+n) cap,w',μ,.inl (bP ?_),?_,hR,hf⟩
      ·rw[kA ht hln hcap hnew];simp only[bJ,Addr.add_lit,aY,hrun,aM,bO]
      ·simp only[aP];exact⟨_,cap,k1,rfl,hcap,k4,fun hn=>by cases hn⟩
   ·have:=aR hn0;subst this;cases hs;have hnew0:new.toList=[]:=dY (by rw[eP];omega)
    refine hU.of h (bP ?_) hvv;rw[kA ht hln (show len+0≤cap by omega) hnew]
    cases lb<;>simp[hnew0,storeCells]
  ·cases hs
 ·cases hs
end
section
variable {E:Env} {M0:Nat→Prop} {w0:World} {N:Nat} {μ:Mu} {M:Nat→Prop} {a:Act} {w:World} {x:AS}
theorem op_cap(h:Rel E M0 w0 N μ a w x){t e ty:TypeId}(hu:E.P.underlying t=some (.slice e)){o:Operand}{ar:Arg}(h2:cS o=some ar){d:D}{x':AS}
  (hs:step E.G (.cap ar) x=some (d,x')):gd E M0 w0 N μ w x a d x' w (do pure (.value (←Builtin.cap_ #[t] ty #[a.eval o]))):=by
 simp only[wM,pF]at hs;cases hs
theorem op_len(h:Rel E M0 w0 N μ a w x){t ty:TypeId}{st:Bool}{o:Operand}{ar:Arg}(h2:cS o=some ar)(hu:if st then E.P.underlying t=some .string else ∃e,E.P.underlying t=some (.slice e)){d:D}{x':AS}
  (hs:step E.G (.len st ar) x=some (d,x')):gd E M0 w0 N μ w x a d x' w (do pure (.value (←Builtin.len_ #[t] ty #[a.eval o]))):=by
 have hv:=cP h h2;simp only[stq]at hs;split at hs
 ·rename_i n hn;cases hs;exact hU.of h (bP (lenD_rel (P:=E.P) hn hv hu w)) (by simp only[aP])
 ·cases hs
theorem op_mm(h:Rel E M0 w0 N μ a w x){mx:Bool}{ts:Array TypeId}{ty:TypeId}{o p:Operand}{ar pr:Arg}(h2:cS o=some ar)(h3:cS p=some pr){d:D}{x':AS}
  (hs:step E.G (.mm mx ar pr) x=some (d,x')) :
  gd E M0 w0 N μ w x a d x' w (do pure (.value (←bif mx then Builtin.max_ ts ty #[a.eval o,a.eval p]else Builtin.min_ ts ty #[a.eval o,a.eval p]))):=by
 have hv:=cP h h2;have hp:=cP h h3;generalize a.eval o=v at *;generalize a.eval p=u at *;simp only[stq]at hs;split at hs
 ·rename_i k n k' m he1 he2;rw[he1]at hv;rw[he2]at hp;simp only[aP]at hv hp;subst hv;subst hp;cases hs;cases mx
  ·exact hU.of (v:=.int k (if m<n then m else n)) h (bP (by simp[Builtin.min_,Builtin.min2])) (by simp only[aP,cF])
  ·exact hU.of (v:=.int k (if m>n then m else n)) h (bP (by simp[Builtin.max_,Builtin.max2])) (by simp only[aP,aS])
 ·cases hs
theorem op_cvI(h:Rel E M0 w0 N μ a w x){s t:TypeId}{k k':IntKind}(hu:E.P.underlying s=some (.int k'))(hd:E.P.underlying t=some (.int k)){o:Operand}{ar:Arg}(h2:cS o=some ar){d:D}{x':AS}
  (hs:step E.G (.cvI k ar) x=some (d,x')):gd E M0 w0 N μ w x a d x' w (do pure (.value (←convert s t (a.eval o)))):=by
 have hv:=cP h h2;generalize a.eval o=v at *;simp only[stq]at hs;split at hs
 ·rename_i j n he;rw[he]at hv;simp only[aP]at hv;subst hv;cases hs;exact hU.of (v:=.int k (k.wrap n)) h (bP (by simp[convert,aZ hu,aZ hd,Conv.intToInt])) (by simp only[aP,kH])
 ·cases hs
theorem op_cvN(h:Rel E M0 w0 N μ a w x){s t:TypeId}{ds:TypeDesc}(hu:E.P.underlying s=some ds)(hd:E.P.underlying t=some .string)(hk:(∃k,ds = .int k)∨ds = .string){o:Operand}{ar:Arg}(h2:cS o=some ar){d:D}{x':AS}
  (hs:step E.G (.cvN ar) x=some (d,x')):gd E M0 w0 N μ w x a d x' w (do pure (.value (←convert s t (a.eval o)))):=by
 have hv:=cP h h2;generalize a.eval o=v at *;simp only[stq]at hs;split at hs
 ·rename_i j n he;rw[he]at hv;simp only[aP]at hv;subst hv;cases hs;refine hU.of (v:=.string (Utf8.encode n)) h (bP ?_) (by simp only[aP,Array.toArray_toList])
  rcases hk with⟨k,rfl⟩|rfl<;>simp[convert,aZ hu,aZ hd,Conv.intToString]
 ·rename_i s he;rw[he]at hv;have hvv:=hv;simp only[aP]at hv;subst hv;cases hs;refine hU.of h (bP ?_) hvv;rcases hk with⟨k,rfl⟩|rfl<;>simp[convert,aZ hu,aZ hd]
 ·cases hs
theorem op_cvB(h:Rel E M0 w0 N μ a w x){s t e:TypeId}(hu:E.P.underlying s=some .string)(hd:E.P.underlying t=some (.slice e))(he:E.P.underlying e=some (.int .u8)){o:Operand}{ar:Arg}(h2:cS o=some ar)
  {d:D} {x':AS} (hs:step E.G (.cvB ar) x=some (d,x')):gd E M0 w0 N μ w x a d x' w (do pure (.value (←convert s t (a.eval o)))):=by
 simp only[step_cvB,qR]at hs;cases hs
theorem op_cvS(h:Rel E M0 w0 N μ a w x){s t e:TypeId}(hu:E.P.underlying s=some (.slice e))(hd:E.P.underlying t=some .string)(he:E.P.underlying e=some (.int .u8)){o:Operand}{ar:Arg}(h2:cS o=some ar)
  {d:D} {x':AS} (hs:step E.G (.cvS ar) x=some (d,x')):gd E M0 w0 N μ w x a d x' w (do pure (.value (←convert s t (a.eval o)))):=by
 simp only[wL,pE]at hs;cases hs
theorem op_copy(h:Rel E M0 w0 N μ a w x){t u e ty:TypeId}{sz:Nat}(hu:E.P.underlying t=some (.slice e))(hsz:iE E.P e=some sz){o p:Operand}{ar pr:Arg}(h2:cS o=some ar)(h3:cS p=some pr)
  {d:D} {x':AS} (hs:step E.G (.copy sz ar pr) x=some (d,x')):gd E M0 w0 N μ w x a d x' w (do pure (.value (←Builtin.copy_ #[t,u] ty #[a.eval o,a.eval p]))):=by
 have hv:=cP h h2;have hp:=cP h h3;generalize a.eval o=v at *;generalize a.eval p=y at *;simp only[stq,aB,aA]at hs;obtain⟨⟨ys,n⟩,hsc,hs⟩:=hs;obtain⟨hln,hyl,hyc⟩:=tY h hsc hp E.P;split at hs
 ·rename_i he;rw[he]at hv;simp only[aP]at hv;subst hv;cases hs;obtain⟨arr,hfc,_⟩:=hyc 0 (dK _);refine hU.of (v:=.int .i64 0) h (bP ?_) (by simp only[aP])
  simp[Builtin.copy_,aZ hu,hln,dO hsz,hfc,goInt]
 ·rename_i nm off z len c he;rw[he]at hv;simp only[aP]at hv;obtain⟨l,b,k1,k2,rfl,k3,k4⟩:=hv;simp only[aA]at hs;obtain⟨blk,hg,hs⟩:=hs;cases hz:Nat.beq z sz<;>rw[hz]at hs
  ·cases hs
  simp only[aS,aG]at hs;obtain⟨blk',hst,he'⟩:=hs;cases he';obtain⟨arr,hfc,har⟩:=hyc (min n len) (Nat.min_le_left _ _);obtain⟨w',hrun,hx,hR,hf⟩:=pQ h hg hst k1 k2 har;refine⟨.int .i64 (min n len:Nat),w',μ,.inl (bP ?_),by simp only[aP],hR,hf⟩
  have hmin:Nat.min n len=min n len:=rfl;simp only[Builtin.copy_,List.getElem?_toArray,aT,List.getElem?_cons_succ,aY,aZ hu,hln,dO hsz,aM,bO,hmin,hfc,hrun,goInt]
 ·rename_i nm off z len he;rw[he]at hv;simp only[aP]at hv;obtain⟨⟨lb,lc⟩,cap,k1,rfl,k3,k4,k5⟩:=hv;simp only[aA]at hs;obtain⟨blk,hg,hs⟩:=hs;cases hz:Nat.beq z sz<;>rw[hz]at hs
  ·cases hs
  simp only[aS,aG]at hs;obtain⟨blk',hst,he'⟩:=hs;cases he';obtain⟨arr,hfc,har⟩:=hyc (min n len) (Nat.min_le_left _ _);have hmin:Nat.min n len=min n len:=rfl;cases lb with
  | some b=>
   obtain⟨w',hrun,hx,hR,hf⟩:=pQ h hg hst k1 rfl har;refine⟨.int .i64 (min n len:Nat),w',μ,.inl (bP ?_),by simp only[aP],hR,hf⟩
   simp only[bJ,Builtin.copy_,List.getElem?_toArray,aT,List.getElem?_cons_succ,aY,aZ hu,hln,dO hsz,aM,bO,hmin,hfc,hrun,goInt]
  | none=>
   have hc0:cap=0:=k5 rfl;have hl0:len=0:=by omega
   subst hl0
   -- nothing is stored
   have hsame:blk'=blk:=by
    simp only[Nat.min_zero,dV,dM]at hst;unfold stB at hst;simp only[List.any_nil,cF]at hst;split at hst
    ·rename_i cs;cases hb:Nat.ble (off+([]:List D).length) cs.length<;>rw[hb]at hst
     ·cases hst
     ·simp only[aS,eS,aC]at hst;exact hst.symm
    ·rename_i cs;cases hb:Nat.ble (off+([]:List D).length) cs.length<;>rw[hb]at hst
     ·cases hst
     ·simp only[aS,eS,aC]at hst;exact hst.symm
    ·cases hst
   subst hsame;have hss:∀k,sget (sset x.s nm blk') k=sget x.s k:=fun k=>by
    rw[aN];by_cases hk:k=nm
    ·simp[hk,hg]
    ·simp[hk]
   refine⟨.int .i64 (min n 0:Nat),w,μ,.inl (bP ?_),by simp only[aP],h.congr (fun n=>.inl rfl) hss (aJ _) rfl,⟨aJ _,fun _ _ _=>rfl,fun b _ ⟨nm',l',h1,h2,h3⟩=>⟨nm',l',by rw[←hss];exact h1,h2,h3⟩,fV.refl μ,aJ _,fun _ _ h=>h,nonew⟩⟩
   ·simp only[Option.map_none,Builtin.copy_,List.getElem?_toArray,aT,List.getElem?_cons_succ,aY,aZ hu,hln,dO hsz,aM,bO,hmin,hfc,goInt]
 ·cases hs
theorem op_rng(h:Rel E M0 w0 N μ a w x){t:TypeId}(hu:E.P.underlying t=some .string){o:Operand}{ar:Arg}(h2:cS o=some ar){d:D}{x':AS}
  (hs:step E.G (.rng ar) x=some (d,x')):gd E M0 w0 N μ w x a d x' w (do pure (.value (←Instr.range t (a.eval o)))):=by
 have hv:=cP h h2;generalize a.eval o=v at *;simp only[stq]at hs;split at hs
 ·rename_i s he;rw[he]at hv;simp only[aP]at hv;subst hv;cases hs
  let w':World:={ w with heap:=w.heap.push (.stringIter ⟨s.toArray⟩ 0) }
  obtain⟨hx,hR,hf⟩:=h.fresh x.c (aJ _) (.iter s 0) (.stringIter ⟨s.toArray⟩ 0) 0 (w':=w') (x':=x.add (.iter s 0)) rfl (fun _=>rfl) (fun n=>aW _ _ _ _) rfl rfl (fun hx hM=>⟨⟨some w.heap.size,0⟩,w.heap.size,by simp[dR],rfl,hM,by simp[w']⟩)
  refine⟨.pointer (some ⟨w.heap.size,0,none⟩),w',_,.inl (bP (by simp[Instr.range,aZ hu,w'])),?_,hR,hf⟩
  simp only[aP];exact⟨_,_,by simp[dR];rfl,rfl,rfl⟩
 ·cases hs
theorem op_next(h:Rel E M0 w0 N μ a w x){o:Operand}{ar:Arg}(h2:cS o=some ar){ty:TypeId}{d:D}{x':AS}
  (hs:step E.G (.next ar) x=some (d,x')):gd E M0 w0 N μ w x a d x' w (do pure (.value (←Instr.next (a.eval o) true ty))):=by
 have hv:=cP h h2;generalize a.eval o=v at *;simp only[stq]at hs;split at hs
 ·rename_i nm he;rw[he]at hv;simp only[aP]at hv;obtain⟨l,b,k1,k2,rfl⟩:=hv;split at hs
  ·rename_i s pos hg;obtain⟨l',b',g1,g2,g3,g4⟩:=h.st nm _ _ k1 hg;rw[k1]at g1;cases g1;rw[k2]at g2;cases g2;have hsize:(⟨s.toArray⟩:ByteArray).size=s.length:=by simp[ByteArray.size]
   cases hlt:Nat.blt pos s.length<;>rw[hlt]at hs
   ·cases hs;have hlt':¬pos<s.length:=fun hc=>by rw[←Nat.blt_eq]at hc;rw[hc]at hlt;cases hlt
    refine hU.of (v:=.tuple #[.bool false]) h (bP ?_) ?_
    ·simp[Instr.next,getObj,Sem.run,g4,hsize,hlt']
    ·simp only[aP];exact⟨_,rfl,aX.cons (by simp only[aP]) aX.nil⟩
   ·cases hs;have hlt':pos<s.length:=by rw[Nat.blt_eq]at hlt;exact hlt
    have hb:b<w.heap.size:=(h.own nm l b k1 k2).2
    let w':World:={ w with heap:=w.heap.setIfInBounds b (.stringIter ⟨s.toArray⟩ (pos+(oP s pos).2)) }
    obtain⟨hx,hR,hf⟩:=h.write nm (.iter s (pos+(oP s pos).2)) l b (w':=w') (x':={ x with s:=sset x.s nm (.iter s (pos+(oP s pos).2)) }) k1 k2 (by rw[hg];rfl) (by simp[w']) (fun k hk=>by
      simp only[w'];rw[dA (fun e=>hk e.symm)]) (fun n=>rfl) (fun n=>by rw[aN]) rfl rfl (fun hx=>⟨l,b,k1,k2,g3,by simp[w',hb]⟩)
    refine⟨.tuple #[.bool true,goInt pos,.int .i32 (oP s pos).1],w',μ,.inl (bP ?_),?_,hR,hf⟩
    ·simp only[Instr.next,getObj,aY,Sem.run,g4,aM,hsize,hlt',if_true,setObj,w',oP];rfl
    ·simp only[aP];exact⟨_,rfl,aX.cons (by simp only[aP]) (aX.cons (by simp only[aP,goInt]) (aX.cons (by simp only[aP]) aX.nil))⟩
  ·cases hs
 ·cases hs
end
end Zv
