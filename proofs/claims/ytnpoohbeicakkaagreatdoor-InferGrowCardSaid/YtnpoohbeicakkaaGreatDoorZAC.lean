/- The operations of the model do what the abstract ones say: those that write nothing. Conditions: none. -/
import Derived.Test.YtnpoohbeicakkaaGreatDoorZAB
import Derived.Laws.StructEq
import Derived.BigFrame
set_option linter.unusedSimpArgs false
set_option linter.unusedVariables false
namespace Zv
open Go
section
variable {E:Env} {M0:Nat→Prop} {w0:World} {N:Nat} {μ:Mu} {M:Nat→Prop} {a:Act} {w:World} {x:AS}
abbrev gd(E:Env)(M0:Nat→Prop)(w0:World)(N:Nat)(μ:Mu)(w:World)(x:AS)(a:Act)(d:D)(x':AS)(w':World)(s:Sem Next):Prop:=hU E M0 w0 N μ w x a d x' (s.run E.P w')
theorem bP{P:Program}{s:Sem Value}{v:Value}{w w':World}(h:s.run P w = .ok v w'):(do pure (.value (←s)):Sem Next).run P w = .ok (.value v) w':=by
 simp[h]
theorem op_mv(h:Rel E M0 w0 N μ a w x){o:Operand}{ar:Arg}(hc:cS o=some ar){d:D}{x':AS}(hs:step E.G (.mv ar) x=some (d,x')):
  gd E M0 w0 N μ w x a d x' w (pure (.value (a.eval o))):=by
 simp[stq]at hs;obtain⟨rfl,rfl⟩:=hs;exact hU.of h (by simp) (cP h hc)
theorem op_pick(h:Rel E M0 w0 N μ a w x){c p q:Operand}{c' p' q':Arg}(h1:cS c=some c')(h2:cS p=some p')(h3:cS q=some q'){d:D}{x':AS}
  (hs:step E.G (.pick c' p' q') x=some (d,x')) :
  gd E M0 w0 N μ w x a d x' w (do pure (.value (if ←asBool (a.eval c) then a.eval p else a.eval q))):=by
 have hv:=cP h h1;simp only[stq]at hs;split at hs
 ·rename_i b hb;rw[hb]at hv;simp only[aP]at hv;simp at hs;obtain⟨rfl,rfl⟩:=hs;cases b
  ·exact hU.of h (by simp[hv,asBool]) (cP h h3)
  ·exact hU.of h (by simp[hv,asBool]) (cP h h2)
 ·cases hs
theorem op_ld(h:Rel E M0 w0 N μ a w x){t:TypeId}{sz:Option Nat}{o:Operand}{ar:Arg}(h1:cSz E.P t=some sz)(h2:cS o=some ar){d:D}{x':AS}
  (hs:step E.G (.ld sz ar) x=some (d,x')):gd E M0 w0 N μ w x a d x' w (do pure (.value (←Instr.loadAt t (a.eval o)))):=by
 have hv:=cP h h2;simp only[stq,aB,aA,aC]at hs;obtain⟨⟨cs,off⟩,hse,d',hta,hs⟩:=hs;cases hs;obtain⟨b,p,hval,hcells⟩:=seen_rel h hse hv;obtain⟨v,hrun,hr⟩:=rS (P:=E.P) h1 hta hcells;exact hU.of h (bP (by simp[Instr.loadAt,Instr.sureAddr,hval,hrun])) hr
theorem run_fieldAt{P:Program}{t:TypeId}{fs:Array Field}{i:Nat}{f:Field}{s b o:Nat}(hu:P.underlying t=some (.struct fs))(hf:fs[i]?=some f)
  (hsz:iE P f.type=some s) (h0:Nat.beq s 0=false) (w:World) :
  (Instr.fieldAt t (.pointer (some ⟨b,o,none⟩)) i).run P w = .ok (.pointer (some ⟨b,o+f.offset,none⟩)) w:=by
 have hs0:s≠0:=fun e=>by subst e;simp at h0
 simp[Instr.fieldAt,aZ hu,hf,Instr.sureAddr,fieldPlace,dO hsz,hs0,Addr.add_lit]
theorem op_fa(h:Rel E M0 w0 N μ a w x){t:TypeId}{fs:Array Field}{i:Nat}{f:Field}{s:Nat}(hu:E.P.underlying t=some (.struct fs))(hf:fs[i]?=some f)
  (hsz:iE E.P f.type=some s) (h0:Nat.beq s 0=false) {o:Operand} {ar:Arg} (h2:cS o=some ar) {d:D} {x':AS}
  (hs:step E.G (.fa f.offset ar) x=some (d,x')):gd E M0 w0 N μ w x a d x' w (do pure (.value (←Instr.fieldAt t (a.eval o) i))):=by
 have hv:=cP h h2;simp only[stq]at hs;split at hs
 ·rename_i nm off he;rw[he]at hv;simp only[aP]at hv;obtain⟨l,b,h3,h4,h5⟩:=hv;cases hs;refine hU.of h (bP (by rw[h5];exact run_fieldAt hu hf hsz h0 w)) ?_
  simp only[aP];exact⟨l,b,h3,h4,rfl⟩
 ·rename_i cs off he;rw[he]at hv;simp only[aP]at hv;obtain⟨b,p,h5,h3,h4,h6⟩:=hv;cases hs;refine hU.of h (bP (by rw[h5];exact run_fieldAt hu hf hsz h0 w)) ?_
  simp only[aP];exact⟨b,p,by rw[Nat.add_assoc],h3,h4,h6⟩
 ·cases hs
theorem nY{n k:Nat}{d:D}(h:kQ n d=some k):∃kd i,d = .int kd i∧0≤i∧i<n∧k=i.toNat:=by
 cases d<;>simp only[kQ,reduceCtorEq]at h
 rename_i kd i;split at h
 ·rename_i hi;cases h;exact⟨kd,i,rfl,hi.1,hi.2,rfl⟩
 ·cases h
theorem op_iaA(h:Rel E M0 w0 N μ a w x){t e:TypeId}{n sz:Nat}(hu:E.P.underlying t=some (.array n e))(hsz:iE E.P e=some sz)
  {o p:Operand} {ar pr:Arg} (h2:cS o=some ar) (h3:cS p=some pr) {d:D} {x':AS}
  (hs:step E.G (.iaA n sz ar pr) x=some (d,x')):gd E M0 w0 N μ w x a d x' w (do pure (.value (←Instr.indexAt t (a.eval o) (a.eval p)))):=by
 have hv:=cP h h2;have hi:=cP h h3;simp only[stq,aB,aA]at hs;obtain⟨k,hk,hs⟩:=hs;obtain⟨kd,i,he,hi0,hin,rfl⟩:=nY hk;rw[he]at hi;simp only[aP]at hi;split at hs
 ·rename_i nm off he;rw[he]at hv;simp only[aP]at hv;obtain⟨l,b,h4,h5,h6⟩:=hv;cases hs;refine hU.of (v:=.pointer (some ⟨b,off+i.toNat*sz,none⟩)) h (bP ?_) ?_
  ·simp[Instr.indexAt,hi,h6,asIntOf,aZ hu,Instr.sureAddr,hi0,hin,dO hsz,Addr.add_lit]
  ·simp only[aP];exact⟨l,b,h4,h5,rfl⟩
 ·rename_i cs off he;rw[he]at hv;simp only[aP]at hv;obtain⟨b,q,h6,h4,h5,h7⟩:=hv;cases hs;refine hU.of (v:=.pointer (some ⟨b,q+off+i.toNat*sz,none⟩)) h (bP ?_) ?_
  ·simp[Instr.indexAt,hi,h6,asIntOf,aZ hu,Instr.sureAddr,hi0,hin,dO hsz,Addr.add_lit]
  ·simp only[aP];exact⟨b,q,by rw[Nat.add_assoc],h4,h5,h7⟩
 ·cases hs
theorem pG{P:Program}{t e:TypeId}{sz:Nat}(hu:P.underlying t=some (.slice e))(hsz:iE P e=some sz){b off len cap:Nat}{kd:IntKind}{i:Int}
  (hi0:0≤i) (hin:i<len) (w:World):(Instr.indexAt t (.slice (some ⟨b,off,none⟩) len cap) (.int kd i)).run P w = .ok (.pointer (some ⟨b,off+i.toNat*sz,none⟩)) w:=by
 simp[Instr.indexAt,asIntOf,aZ hu,hi0,hin,dO hsz,Addr.add_lit]
theorem op_iaS(h:Rel E M0 w0 N μ a w x){t e:TypeId}{sz:Nat}(hu:E.P.underlying t=some (.slice e))(hsz:iE E.P e=some sz)
  {o p:Operand} {ar pr:Arg} (h2:cS o=some ar) (h3:cS p=some pr) {d:D} {x':AS}
  (hs:step E.G (.iaS sz ar pr) x=some (d,x')):gd E M0 w0 N μ w x a d x' w (do pure (.value (←Instr.indexAt t (a.eval o) (a.eval p)))):=by
 have hv:=cP h h2;have hi:=cP h h3;simp only[stq]at hs;split at hs
 ·rename_i ex len cs he;rw[he]at hv;simp only[aB,aA]at hs;obtain⟨k,hk,hs⟩:=hs;obtain⟨kd,i,he',hi0,hin,rfl⟩:=nY hk;rw[he']at hi;simp only[aP]at hi hv;obtain⟨ad,cap,h4,h5,h6,h7⟩:=hv;cases hs;rcases h7 with h7|⟨b,q,rfl,h8,h9,h10⟩
  ·omega
  refine hU.of h (bP (by rw[h4,hi];exact pG hu hsz hi0 hin w)) ?_
  simp only[aP];exact⟨b,q,rfl,h8,h9,h10⟩
 ·rename_i nm off z len cap he;rw[he]at hv;simp only[aB,aA]at hs;obtain⟨k,hk,hs⟩:=hs;obtain⟨kd,i,he',hi0,hin,rfl⟩:=nY hk;rw[he']at hi;simp only[aP]at hi hv;obtain⟨l,b,h4,h5,h6,h7⟩:=hv;cases hz:Nat.beq z sz<;>rw[hz]at hs<;>cases hs
  refine hU.of h (bP (by rw[h6,hi];exact pG hu hsz hi0 hin w)) ?_
  simp only[aP];exact⟨l,b,h4,h5,rfl⟩
 ·rename_i nm off z len he;rw[he]at hv;simp only[aB,aA]at hs;obtain⟨k,hk,hs⟩:=hs;obtain⟨kd,i,he',hi0,hin,rfl⟩:=nY hk;rw[he']at hi;simp only[aP]at hi hv;obtain⟨l,cap,h4,h6,h7,h8,h9⟩:=hv;cases hz:Nat.beq z sz<;>rw[hz]at hs<;>cases hs
  cases hb:l.blk with
  | none=>have:=h9 hb;omega
  | some b=>
   rw[hb]at h6;refine hU.of h (bP (by rw[h6,hi];exact pG hu hsz hi0 hin w)) ?_
   simp only[aP];exact⟨l,b,h4,hb,rfl⟩
 ·cases hs
theorem pT{P:Program}{cs:List D}{vs:Array Value}(hr:aX (Mm M0 μ) w μ cs vs.toList){off:Nat}{t:TypeId}{bb:Bool}{n:Nat}(h1:vG P t=some bb)(h2:iE P t=some n){d:D}
  (ht:dE cs off (bif bb then some n else none)=some d):∃v,(part t vs off).run P w = .ok v w∧aP (Mm M0 μ) w μ d v:=by
 simp only[part,aY,run_isAgg h1,aM];cases bb with
 | false=>
  simp only[cF,dE]at ht;obtain⟨v,hv,hd⟩:=aX.get off d hr ht;refine⟨v,?_,hd⟩;have:vs[off]?=some v:=by simpa using hv
  simp[this]
 | true=>
  simp only[aS,dE]at ht;cases hle:Nat.ble (off+n) cs.length with
  | false=>rw[hle]at ht;cases ht
  | true=>
   rw[hle]at ht;simp at ht;subst ht;refine⟨.agg (vs.extract off (off+n)),by simp[dO h2],?_⟩
   simp only[aP];refine⟨_,rfl,?_⟩;have:(vs.extract off (off+n)).toList=(vs.toList.drop off).take n:=by
    rw[Array.toList_extract,List.extract_eq_take_drop];congr 1;omega
   rw[this];exact(hr.drop off).take n
theorem op_ixA(h:Rel E M0 w0 N μ a w x){t e:TypeId}{n sz:Nat}{bb:Bool}(hu:E.P.underlying t=some (.array n e))(hsz:iE E.P e=some sz)(hag:vG E.P e=some bb)
  {o p:Operand} {ar pr:Arg} (h2:cS o=some ar) (h3:cS p=some pr) {d:D} {x':AS}
  (hs:step E.G (.ixA n sz bb ar pr) x=some (d,x')):gd E M0 w0 N μ w x a d x' w (do pure (.value (←Instr.index t (a.eval o) (a.eval p)))):=by
 have hv:=cP h h2;have hi:=cP h h3;simp only[stq]at hs;split at hs
 ·rename_i cs he;rw[he]at hv;simp only[aB,aA]at hs;obtain⟨k,hk,d',hd,hs⟩:=hs;obtain⟨kd,i,he',hi0,hin,rfl⟩:=nY hk;rw[he']at hi;simp only[aP]at hi hv;obtain⟨vs,h4,h5⟩:=hv;cases hs;obtain⟨v,hrun,hr⟩:=pT (P:=E.P) h5 hag hsz hd;exact hU.of h (bP (by simp[Instr.index,hi,h4,asIntOf,aZ hu,hi0,hin,dO hsz,hrun])) hr
 ·cases hs
theorem op_ixS(h:Rel E M0 w0 N μ a w x){t:TypeId}(hu:E.P.underlying t=some .string)
  {o p:Operand} {ar pr:Arg} (h2:cS o=some ar) (h3:cS p=some pr) {d:D} {x':AS}
  (hs:step E.G (.ixS ar pr) x=some (d,x')):gd E M0 w0 N μ w x a d x' w (do pure (.value (←Instr.index t (a.eval o) (a.eval p)))):=by
 have hv:=cP h h2;have hi:=cP h h3;simp only[stq]at hs;split at hs
 ·rename_i s he;rw[he]at hv;simp only[aB,aA]at hs;obtain⟨k,hk,b,hb,hs⟩:=hs;obtain⟨kd,i,he',hi0,hin,rfl⟩:=nY hk;rw[he']at hi;simp only[aP]at hi hv;cases hs;have hb':(⟨s.toArray⟩:ByteArray)[i.toNat]?=some b:=by
   rw[cH]at hb;obtain⟨hlt,hb⟩:=hb;have hsz:i.toNat<(⟨s.toArray⟩:ByteArray).size:=by simpa[ByteArray.size]using hlt
   rw[getElem?_pos (⟨s.toArray⟩:ByteArray) i.toNat hsz];simp only[aC];subst hb;simp[ByteArray.getElem_eq_getElem_data]
  refine hU.of (v:=.int .u8 b.toNat) h (bP ?_) (by simp only[aP])
  simp[Instr.index,hi,hv,asIntOf,aZ hu,hi0,hb']
 ·cases hs
theorem op_fld(h:Rel E M0 w0 N μ a w x){t:TypeId}{fs:Array Field}{i:Nat}{f:Field}{sz:Option Nat}(hu:E.P.underlying t=some (.struct fs))(hf:fs[i]?=some f)
  (hsz:cSz E.P f.type=some sz) {o:Operand} {ar:Arg} (h2:cS o=some ar) {d:D} {x':AS}
  (hs:step E.G (.fld f.offset sz ar) x=some (d,x')):gd E M0 w0 N μ w x a d x' w (do pure (.value (←Instr.field t (a.eval o) i))):=by
 simp only[wJ,pC]at hs;cases hs
theorem op_ext(h:Rel E M0 w0 N μ a w x){i:Nat}{o:Operand}{ar:Arg}(h2:cS o=some ar){d:D}{x':AS}
  (hs:step E.G (.ext i ar) x=some (d,x')):gd E M0 w0 N μ w x a d x' w (do pure (.value (←Instr.extract (a.eval o) i))):=by
 have hv:=cP h h2;simp only[stq]at hs;split at hs
 ·rename_i cs he;rw[he]at hv;simp only[aB,aA]at hs;obtain⟨d',hd,hs⟩:=hs;simp only[aP]at hv;obtain⟨vs,h4,h5⟩:=hv;cases hs;obtain⟨v,hv',hr⟩:=aX.get i _ h5 hd;have:vs[i]?=some v:=by simpa using hv'
  exact hU.of h (bP (by simp[Instr.extract,h4,this])) hr
 ·cases hs
theorem op_mkif(h:Rel E M0 w0 N μ a w x){t:TypeId}{ds:TypeDesc}(hu:E.P.underlying t=some ds)(hn:∀ms,ds≠.interface ms){o:Operand}{ar:Arg}(h2:cS o=some ar){d:D}{x':AS}
  (hs:step E.G (.mkif t ar) x=some (d,x')):gd E M0 w0 N μ w x a d x' w (do pure (.value (←Instr.makeInterface t (a.eval o)))):=by
 have hv:=cP h h2;simp only[stq]at hs;cases hs;refine hU.of (v:=.iface t (a.eval o)) h (bP ?_) (by simp only[aP];exact⟨_,rfl,hv⟩)
 simp only[Instr.makeInterface,aY,aZ hu,aM];cases ds<;>first|rfl|exact absurd rfl (hn _)
theorem op_mkfn(h:Rel E M0 w0 N μ a w x){f:Fn}{p q:Array Operand}{p' q':List Arg}(h2:lQ p=some p')(h3:lQ q=some q'){d:D}{x':AS}
  (hs:step E.G (.mkfn f p' q') x=some (d,x')):gd E M0 w0 N μ w x a d x' w (do pure (.value (←Instr.makeFunc f (p.map a.eval) (q.map a.eval)))):=by
 simp only[stq]at hs;cases hs;refine hU.of (v:=.func f (p.map a.eval) (q.map a.eval)) h (bP rfl) ?_;simp only[aP];refine⟨_,_,rfl,?_,?_⟩
 ·simpa using xV h h2
 ·simpa using xV h h3
theorem op_nilc(h:Rel E M0 w0 N μ a w x){o:Operand}{ar:Arg}{oo:Oper}(ho:oo.op = .nilCheck o)(h2:cS o=some ar){d:D}{x':AS}
  (hs:step E.G (.nilc ar) x=some (d,x')):gd E M0 w0 N μ w x a d x' w (execOp a.eval oo):=by
 have hv:=cP h h2;simp only[stq]at hs;have key:∀v,a.eval o=v→aP (Mm M0 μ) w μ d v→x'=x→(v≠.pointer none∧v≠.nilIface∧v≠.nilFunc∧∀n f c,v≠.func (.method n) f c)→gd E M0 w0 N μ w x a d x' w (execOp a.eval oo):=by
  intro v he hd hx hn;subst hx;refine hU.of (v:=v) h ?_ hd;simp only[execOp,ho];rw[he];obtain⟨n1,n2,n3,n4⟩:=hn;split
  ·exact absurd rfl n1
  ·exact absurd rfl n2
  ·exact absurd rfl n3
  ·exact absurd rfl (n4 _ _ _)
  ·simp
 split at hs
 ·rename_i nm off he;rw[he]at hv;cases hs;have hv':=hv;simp only[aP]at hv';obtain⟨l,b,h3,h4,h5⟩:=hv';exact key _ rfl hv rfl (by rw[h5];simp)
 ·rename_i cs off he;rw[he]at hv;cases hs;have hv':=hv;simp only[aP]at hv';obtain⟨b,q,h5,_⟩:=hv';exact key _ rfl hv rfl (by rw[h5];simp)
 ·rename_i f p q he;rw[he]at hv;cases hs;have hv':=hv;simp only[aP]at hv';obtain⟨va,vb,h5,_⟩:=hv';exact key _ rfl hv rfl (by rw[h5];simp)
 ·cases hs
theorem fitsD_iff(k:IntKind)(n:Int):fitsD k n=true↔-(loK k:Int)≤n∧n≤(hiK k:Int):=by
 cases n with
 | ofNat m=>simp only[fitsD,Nat.ble_eq,Int.ofNat_eq_natCast];omega
 | negSucc m=>simp only[fitsD,Nat.ble_eq];omega
theorem kH(k:IntKind)(n:Int):dJ k n=k.wrap n:=by
 unfold dJ;cases h:fitsD k n with
 | false=>rfl
 | true=>
  rw[fitsD_iff]at h;cases k<;>simp only[loK,hiK]at h<;>simp only[aS,IntKind.wrap,IntKind.bits,IntKind.signed]<;>simp<;>first|omega|(split<;>omega)
theorem kW{k:IntKind}{n:Int}(h1 : -(loK k:Int)≤n)(h2:n≤(hiK k:Int)):dJ k n=n:=by
 unfold dJ;rw[(fitsD_iff k n).2 ⟨h1,h2⟩];rfl
theorem tO{op:BinOp}{k:IntKind}{p q:Int}{d:D}(hs:xU op k p q=some d)(P:Program)(w:World):∃n,d = .int k n∧(Op.intBits op k p q).run P w = .ok (.int k n) w:=by
 cases op<;>simp only[xU,aC,reduceCtorEq]at hs<;>subst hs<;>exact⟨_,rfl,by simp[Op.intBits]⟩
theorem int_rel{op:BinOp}{k:IntKind}{p q:Int}{d:D}(hs:intD op k p q=some d)(hsh:op≠.shl)(hsr:op≠.shr)(P:Program)(t:TypeId)(w:World):
  ∃v,aP (Mm M0 μ) w μ d v∧(binOp op t (.int k p) (.int k q)).run P w = .ok v w:=by
 cases op
 case shl=>exact absurd rfl hsh
 case shr=>exact absurd rfl hsr
 case quo=>
  simp only[intD]at hs;split at hs
  ·cases hs
  ·rename_i h0;cases hs;exact⟨_,by simp only[aP];rfl,by simp[binOp,Op.intDiv,h0,kH]⟩
 case rem=>
  simp only[intD]at hs;split at hs
  ·cases hs
  ·rename_i h0;cases hs;exact⟨_,by simp only[aP];rfl,by simp[binOp,Op.intDiv,h0,kH]⟩
 case and=>obtain⟨n,rfl,h⟩:=tO (by simpa only[intD]using hs) P w;exact⟨_,by simp only[aP];rfl,by simpa[binOp]using h⟩
 case or=>obtain⟨n,rfl,h⟩:=tO (by simpa only[intD]using hs) P w;exact⟨_,by simp only[aP];rfl,by simpa[binOp]using h⟩
 case xor=>obtain⟨n,rfl,h⟩:=tO (by simpa only[intD]using hs) P w;exact⟨_,by simp only[aP];rfl,by simpa[binOp]using h⟩
 case andNot=>obtain⟨n,rfl,h⟩:=tO (by simpa only[intD]using hs) P w;exact⟨_,by simp only[aP];rfl,by simpa[binOp]using h⟩
 all_goals
  simp only[intD,aC]at hs;subst hs;exact⟨_,by simp only[aP];rfl,by simp[binOp,Op.intArith,Op.intCmp,kH]⟩
theorem sh_rel{op:BinOp}{k j:IntKind}{p q:Int}{d:D}(hs:shD op k p q=some d)(P:Program)(t:TypeId)(w:World):
  ∃v,aP (Mm M0 μ) w μ d v∧(Op.shift op k p j q).run P w = .ok v w:=by
 simp only[shD]at hs;split at hs
 ·cases hs
 ·rename_i h0;cases op<;>simp only[aC,reduceCtorEq]at hs<;>subst hs
  ·exact⟨_,by simp only[aP];rfl,by simp[Op.shift,h0,kH]⟩
  ·exact⟨_,by simp only[aP];rfl,by simp[Op.shift,h0]⟩
theorem toList_mk(s:List UInt8):(⟨s.toArray⟩:ByteArray).toList=s:=by simp
theorem strD_rel{op:BinOp}{p q:List UInt8}{d:D}(hs:strD op p q=some d)(P:Program)(t:TypeId)(w:World):
  ∃v,aP (Mm M0 μ) w μ d v∧(binOp op t (.string ⟨p.toArray⟩) (.string ⟨q.toArray⟩)).run P w = .ok v w:=by
 have e:∀op',(binOp op' t (.string ⟨p.toArray⟩) (.string ⟨q.toArray⟩))=Op.stringOp op' ⟨p.toArray⟩ ⟨q.toArray⟩:=by intro op';cases op'<;>rfl
 rw[e];cases op<;>simp only[strD,aC,reduceCtorEq]at hs
 case add=>
  cases hle:Nat.ble (p.length+q.length) 9223372036854775807 with
  | false=>rw[hle]at hs;cases hs
  | true=>
   rw[hle]at hs;simp at hs;subst hs;have hle':=cO hle;refine⟨.string (⟨p.toArray⟩++⟨q.toArray⟩),?_,?_⟩
   ·simp only[aP,Value.string.injEq];apply ByteArray.ext;simp
   ·have hno:¬(((⟨p.toArray⟩:ByteArray).size+(⟨q.toArray⟩:ByteArray).size:Nat):Int)>IntKind.i64.max:=by
     simp only[IntKind.max_i64,ByteArray.size];simp;omega
    simp only[Op.stringOp];rw[aD hno];simp
 all_goals
  subst hs;exact⟨_,by simp only[aP];rfl,by simp[Op.stringOp,toList_mk]⟩
end
section
variable {E:Env} {M0:Nat→Prop} {w0:World} {N:Nat} {μ:Mu} {M:Nat→Prop} {a:Act} {w:World} {x:AS}
theorem beq_mk(p q:List UInt8):(p==q)=((⟨p.toArray⟩:ByteArray).toList==(⟨q.toArray⟩:ByteArray).toList):=by rw[toList_mk,toList_mk]
theorem wV{P:Program}(d:Nat)(t e:TypeId)(len n:Nat)(xs ys:Array Value)(hu:P.underlying t=some (.array len e))(hs:iE P e=some n)(K:List Nat→Sem Bool)
  (hK0:K []=pure true) (hK:∀i r,K (i::r)=(do
   let p ←part e xs (i*n)
   let q ←part e ys (i*n)
   let b ←Op.equalIn d e p q
   if(!b)=true then pure false else K r)) (w:World) :
  (Op.equalIn (d+1) t (.agg xs) (.agg ys)).run P w=(K (List.range len)).run P w:=by
 simp only[Op.equalIn,aY,aZ hu,aM,dO hs];simp only[Std.Legacy.Range.forIn_eq_forIn_range',Std.Legacy.Range.size];rw[List.range_eq_range'];simp only[fF,Nat.add_sub_cancel,Nat.div_one];generalize List.range' 0 len=l
 induction l generalizing w with
 | nil=>simp[hK0]
 | cons i r ih=>
  simp only[List.forIn_cons,hK,aY,Sem.run_ite];generalize (part e xs (i*n)).run P w=r1;cases r1 with
  | ok p w1=>
   simp only[aM];generalize (part e ys (i*n)).run P w1=r2;cases r2 with
   | ok q w2=>
    simp only[aM];generalize (Op.equalIn d e p q).run P w2=r3;cases r3 with
    | ok b w3=>
     cases b
     ·simp only[aM,bR,if_true,bO]
     ·simp only[aM,cG,cN,eV,bO];exact ih w3
    | halt y w3=>simp[Result.andThen]
   | halt y w2=>simp[Result.andThen]
  | halt y w1=>simp[Result.andThen]
theorem eq_fields{P:Program}{n:Nat} (ih:∀(t:TypeId) (e:ET) (d1 d2:D) (r:Bool) (v1 v2:Value),eT P n t=some e→eqT e d1 d2=some r→aP (Mm M0 μ) w μ d1 v1→aP (Mm M0 μ) w μ d2 v2 →
   ∀k,n≤k→(Op.equalIn k t v1 v2).run P w = .ok r w) {k:Nat} (hk:n≤k) {cs ds:List D} {vs us:Array Value} (h1:aX (Mm M0 μ) w μ cs vs.toList) (h2:aX (Mm M0 μ) w μ ds us.toList) :
  ∀(fs:List Field) (l:List (Nat×Option Nat×ET)) (r:Bool),
   List.mapM (fun(f:Field)=>do
    let s ←cSz P f.type
    let e ←eT P n f.type
    some (f.offset,s,e)) (fs.filter (fun f=>f.name != "_"))=some l→uN l cs ds=some r→(Op.eqFields k vs us fs).run P w = .ok r w
 | [],l,r,hl,hr=>by
  simp at hl;subst hl;simp[uN]at hr;subst hr;simp[Op.eqFields]
 | f::fs,l,r,hl,hr=>by
  simp only[Op.eqFields];by_cases hf:f.name = "_"
  ·rw[List.filter_cons_of_neg (by simp[hf])]at hl
   simp only[hf,gW,bS,eV];exact eq_fields ih hk h1 h2 fs l r hl hr
  ·rw[List.filter_cons_of_pos (by simpa using hf)]at hl
   simp only[gW,hf,bV,if_true];simp only[List.mapM_cons,aB,aA,Option.pure_def,aC]at hl;obtain⟨p,⟨s,hs,e,he,rfl⟩,l',hl',rfl⟩:=hl;simp only[uN]at hr;obtain⟨i,bb,h3,h4,rfl⟩:=xR hs;have hsz:iE P f.type=some i.size:=by simp[iE,h3]
   split at hr
   ·rename_i d1 d2 hd1 hd2;obtain⟨v1,hv1,hr1⟩:=pT (P:=P) h1 h4 hsz hd1;obtain⟨v2,hv2,hr2⟩:=pT (P:=P) h2 h4 hsz hd2;split at hr
    ·rename_i b hb;have heq:=ih f.type e d1 d2 b v1 v2 he hb hr1 hr2 k hk;simp only[aY,hv1,hv2,heq,aM];cases b with
     | false=>simp at hr;subst hr;simp
     | true=>
      simp at hr;simpa using eq_fields ih hk h1 h2 fs l' r hl' hr
    ·cases hr
   ·cases hr
theorem eqT_rel{P:Program}:∀(n:Nat) (t:TypeId) (e:ET) (d1 d2:D) (r:Bool) (v1 v2:Value),eT P n t=some e→eqT e d1 d2=some r→aP (Mm M0 μ) w μ d1 v1→aP (Mm M0 μ) w μ d2 v2 →
   ∀k,n≤k→(Op.equalIn k t v1 v2).run P w = .ok r w
 | 0,t,e,d1,d2,r,v1,v2,he,hr,h1,h2,k,hk=>by simp[eT]at he
 | n+1,t,e,d1,d2,r,v1,v2,he,hr,h1,h2,k,hk=>by
  obtain⟨k,rfl⟩:∃m,k=m+1:=⟨k-1,by omega⟩
  simp only[eT]at he;split at he
  ·rename_i hu;cases he;cases d1<;>cases d2<;>simp only[eqT,reduceCtorEq]at hr
   simp at hr;subst hr;simp only[aP]at h1 h2;subst h1;subst h2;exact run_equalIn_bool' w k t _ _ hu
  ·rename_i kd hu;cases he;cases d1<;>cases d2<;>simp only[eqT,reduceCtorEq]at hr
   split at hr
   ·simp at hr;subst hr;simp only[aP]at h1 h2;subst h1;subst h2;rename_i hkk;subst hkk;exact run_equalIn_int w k t _ _ _ _ hu
   ·cases hr
  ·rename_i hu;cases he;cases d1<;>cases d2<;>simp only[eqT,reduceCtorEq]at hr
   simp at hr;subst hr;simp only[aP]at h1 h2;subst h1;subst h2;rw[beq_mk];exact run_equalIn_string w k t _ _ hu
  ·rename_i fs hu;cases hp:P.stoodInHeld t with
   | true=>rw[hp]at he;cases he
   | false=>
    rw[hp]at he;simp only[cF,aG]at he;obtain⟨l,hl,rfl⟩:=he;cases d1<;>cases d2<;>simp only[eqT,reduceCtorEq]at hr
    simp only[aP]at h1 h2;obtain⟨vs,rfl,h1⟩:=h1;obtain⟨us,rfl,h2⟩:=h2;have hfs:P.fieldsOf t=fs:=by simp[Program.fieldsOf,hu]
    rw[run_equalIn_struct w k t vs us (by rw[hfs];exact hu) hp,hfs]
    exact eq_fields (fun t e d1 d2 r v1 v2 a b c d k hk=>eqT_rel n t e d1 d2 r v1 v2 a b c d k hk) (by omega) h1 h2 _ l r hl hr
  ·rename_i len el hu;simp only[aB,aA,aC]at he;obtain⟨s,hs,sz,hsz,e',he',rfl⟩:=he;cases d1<;>cases d2<;>simp only[eqT,reduceCtorEq]at hr
   simp only[aP]at h1 h2;obtain⟨vs,rfl,h1⟩:=h1;obtain⟨us,rfl,h2⟩:=h2
   let K:List Nat→Sem Bool:=fun l=>l.foldr (fun i r=>do
    let p ←part el vs (i*sz)
    let q ←part el us (i*sz)
    let b ←Op.equalIn k el p q
    if(!b)=true then pure false else r) (pure true)
   rw[wV k t el len sz vs us hu hsz K rfl (fun _ _=>rfl)]
   obtain⟨ii,bb,h3,h4,rfl⟩:=xR hs;generalize List.range len=L at hr
   induction L generalizing r with
   | nil=>simp[uN]at hr;subst hr;rfl
   | cons i L ihL=>
    simp only[bW,uN]at hr;have hsz':iE P el=some ii.size:=by simp[iE,h3]
    split at hr
    ·rename_i d1 d2 hd1 hd2;obtain⟨v1,hv1,hr1⟩:=pT (P:=P) h1 h4 hsz' hd1;obtain⟨v2,hv2,hr2⟩:=pT (P:=P) h2 h4 hsz' hd2;split at hr
     ·rename_i b hb;have heq:=eqT_rel n el e' d1 d2 b v1 v2 he' hb hr1 hr2 k (by omega)
      show(do
       let p ←part el vs (i*sz)
       let q ←part el us (i*sz)
       let b ←Op.equalIn k el p q
       if(!b)=true then pure false else K L).run P w=_
      simp only[aY,hv1,hv2,heq,aM];cases b with
      | false=>simp at hr;subst hr;simp
      | true=>
       simp at hr;simpa using ihL r hr
     ·cases hr
    ·cases hr
  ·cases he
theorem op_bin(h:Rel E M0 w0 N μ a w x){op:BinOp}{t:TypeId}{o p:Operand}{ar pr:Arg}(h2:cS o=some ar)(h3:cS p=some pr){d:D}{x':AS}
  (hs:step E.G (.bin op ar pr) x=some (d,x')):gd E M0 w0 N μ w x a d x' w (do pure (.value (← (do eqGuard op t o p (a.eval o) (a.eval p);binOp op t (a.eval o) (a.eval p):Sem Value)))):=by
 have hv:=cP h h2;have hi:=cP h h3;simp only[stq,aG]at hs;obtain⟨d',hs,he⟩:=hs;cases he;simp only[jY]at hs;split at hs
 ·rename_i k p' j q' he1 he2;rw[he1]at hv;rw[he2]at hi;simp only[aP]at hv hi;split at hs
  ·obtain⟨v,hr,hrun⟩:=sh_rel (j:=j) (t:=t) hs E.P w;exact hU.of h (bP (by rw[hv,hi,eqGuard_at_int];simpa[binOp]using hrun)) hr
  ·obtain⟨v,hr,hrun⟩:=sh_rel (j:=j) (t:=t) hs E.P w;exact hU.of h (bP (by rw[hv,hi,eqGuard_at_int];simpa[binOp]using hrun)) hr
  ·rename_i hn1 hn2;split at hs
   ·rename_i hkj;subst hkj;obtain⟨v,hr,hrun⟩:=int_rel (M0:=M0) (μ:=μ) hs (fun e=>hn1 e) (fun e=>hn2 e) E.P t w
    exact hU.of h (bP (by rw[hv,hi,eqGuard_at_int];simpa using hrun)) hr
   ·cases hs
 ·rename_i p' q' he1 he2;rw[he1]at hv;rw[he2]at hi;simp only[aP]at hv hi;obtain⟨v,hr,hrun⟩:=strD_rel (M0:=M0) (μ:=μ) hs E.P t w;exact hU.of h (bP (by rw[hv,hi,eqGuard_at_string];simpa using hrun)) hr
 ·cases hs
theorem binOp_eqneq{P:Program}(t:TypeId)(v u:Value)(r:Bool)(neg:Bool)(w:World)(hn:(∀k n,v≠.int k n)∧(∀s,v≠.string s)∧(∀k n,v≠.float k n)∧(∀k n m,v≠.complex k n m))
  (h:(Op.equal t v u).run P w = .ok r w):(binOp (bif neg then .neq else .eql) t v u).run P w = .ok (.bool (bif neg then !r else r)) w:=by
 obtain⟨n1,n2,n3,n4⟩:=hn;cases neg<;>cases v<;>first
  | exact absurd rfl (n1 _ _)
  | exact absurd rfl (n2 _)
  | exact absurd rfl (n3 _ _)
  | exact absurd rfl (n4 _ _ _)
  | simp[binOp,h]
theorem eT_struct{P:Program}{n:Nat}{t:TypeId}{fs:Array Field}{e:ET}(hu:P.underlying t=some (.struct fs))(he:eT P (n+1) t=some e):∃l,e = .parts l:=by
 simp only[eT,hu]at he;cases hp:P.stoodInHeld t<;>rw[hp]at he
 ·simp only[cF,aG]at he;obtain⟨l,_,rfl⟩:=he;exact⟨l,rfl⟩
 ·cases he
theorem eT_array{P:Program}{n:Nat}{t len el:Nat}{e:ET}(hu:P.underlying t=some (.array len el))(he:eT P (n+1) t=some e):∃l,e = .parts l:=by
 simp only[eT,hu,aB,aA,aC]at he;obtain⟨_,_,_,_,_,_,rfl⟩:=he;exact⟨_,rfl⟩
section eqs
variable {P:Program} (d:Nat) {t:TypeId} (w:World)
theorem rK{e:TypeId}(hu:P.underlying t=some (.slice e))(b:Option Addr)(n c k l:Nat):(Op.equalIn (d+1) t (.slice none k l) (.slice b n c)).run P w = .ok b.isNone w:=by
 simp[Op.equalIn,aZ hu]
theorem vJ{e:TypeId}(hu:P.underlying t=some (.slice e))(b:Addr)(n c k l:Nat):(Op.equalIn (d+1) t (.slice (some b) n c) (.slice none k l)).run P w = .ok false w:=by
 simp[Op.equalIn,aZ hu]
theorem eqn_ptr1{e:TypeId}(hu:P.underlying t=some (.pointer e))(b:Option Addr):(Op.equalIn (d+1) t (.pointer none) (.pointer b)).run P w = .ok b.isNone w:=by
 simp[Op.equalIn,aZ hu]
theorem eqn_ptr2{e:TypeId}(hu:P.underlying t=some (.pointer e))(b:Addr):(Op.equalIn (d+1) t (.pointer (some b)) (.pointer none)).run P w = .ok false w:=by
 simp[Op.equalIn,aZ hu]
theorem eqn_ifc0{ms:Array (String×TypeId)}(hu:P.underlying t=some (.interface ms)):(Op.equalIn (d+1) t .nilIface .nilIface).run P w = .ok true w:=by
 simp[Op.equalIn,aZ hu]
theorem eqn_ifc1{ms:Array (String×TypeId)}(hu:P.underlying t=some (.interface ms))(k:TypeId)(v:Value):(Op.equalIn (d+1) t .nilIface (.iface k v)).run P w = .ok false w:=by
 simp[Op.equalIn,aZ hu]
theorem eqn_ifc2{ms:Array (String×TypeId)}(hu:P.underlying t=some (.interface ms))(k:TypeId)(v:Value):(Op.equalIn (d+1) t (.iface k v) .nilIface).run P w = .ok false w:=by
 simp[Op.equalIn,aZ hu]
theorem eqn_fn0{p q:Array TypeId}{b:Bool}(hu:P.underlying t=some (.func p q b)):(Op.equalIn (d+1) t .nilFunc .nilFunc).run P w = .ok true w:=by
 simp[Op.equalIn,aZ hu]
theorem eqn_fn1{p q:Array TypeId}{b:Bool}(hu:P.underlying t=some (.func p q b))(f:Fn)(k l:Array Value):(Op.equalIn (d+1) t .nilFunc (.func f k l)).run P w = .ok false w:=by
 simp[Op.equalIn,aZ hu]
theorem eqn_fn2{p q:Array TypeId}{b:Bool}(hu:P.underlying t=some (.func p q b))(f:Fn)(k l:Array Value):(Op.equalIn (d+1) t (.func f k l) .nilFunc).run P w = .ok false w:=by
 simp[Op.equalIn,aZ hu]
end eqs
theorem cmp_run{P:Program}{neg:Bool}{t:TypeId}{o p:Operand}{k:EK}(hk:cmpK P t o p=some k){d1 d2:D}{r:Bool}(hs:pN k d1 d2=some r){v u:Value}(hv:aP (Mm M0 μ) w μ d1 v)(hi:aP (Mm M0 μ) w μ d2 u):
  (do eqGuard (bif neg then .neq else .eql) t o p v u;binOp (bif neg then .neq else .eql) t v u:Sem Value).run P w = .ok (.bool (bif neg then !r else r)) w:=by
 have fin:(eqGuard (bif neg then .neq else .eql) t o p v u).run P w = .ok () w→((∀k n,v≠.int k n)∧(∀s,v≠.string s)∧(∀k n,v≠.float k n)∧(∀k n m,v≠.complex k n m)) →
   (Op.equal t v u).run P w = .ok r w →
   (do eqGuard (bif neg then .neq else .eql) t o p v u;binOp (bif neg then .neq else .eql) t v u:Sem Value).run P w = .ok (.bool (bif neg then !r else r)) w:=by
  intro hg hn he;simp only[aY,hg,aM];exact binOp_eqneq t _ _ r neg w hn he
 have agg:P.eqGuardType P.depth t=false→∀e,eT P 20 t=some e→(∃l,e = .parts l)→eqT e d1 d2=some r →
   (do eqGuard (bif neg then .neq else .eql) t o p v u;binOp (bif neg then .neq else .eql) t v u:Sem Value).run P w = .ok (.bool (bif neg then !r else r)) w:=by
  intro hg e he hl hs;obtain⟨l,rfl⟩:=hl;have heq:=eqT_rel 20 t _ _ _ r _ _ he hs hv hi 10000 (by omega)
  cases d1<;>cases d2<;>simp only[eqT,reduceCtorEq]at hs
  simp only[aP]at hv hi;obtain⟨vs,rfl,_⟩:=hv;obtain⟨us,rfl,_⟩:=hi;exact fin (run_eqGuard_agg w _ t o p vs us hg) (by simp) heq
 simp only[cmpK]at hk;split at hk
 ·rename_i hu;cases hk;simp only[pN]at hs;cases d1<;>cases d2<;>simp only[eqT,reduceCtorEq]at hs
  simp at hs;subst hs;simp only[aP]at hv hi;subst hv;subst hi;exact fin (by simp[eqGuard_at_bool]) (by simp) (run_equalIn_bool' w 9999 t _ _ hu)
 ·rename_i hu;cases hg:P.eqGuardType P.depth t<;>rw[hg]at hk
  ·simp only[cF,aG]at hk;obtain⟨e,he,rfl⟩:=hk;exact agg hg e he (eT_struct hu he) hs
  ·cases hk
 ·rename_i hu;cases hg:P.eqGuardType P.depth t<;>rw[hg]at hk
  ·simp only[cF,aG]at hk;obtain⟨e,he,rfl⟩:=hk;exact agg hg e he (eT_array hu he) hs
  ·cases hk
 ·rename_i e hu;cases hk;cases d1<;>cases d2<;>simp only[pN,reduceCtorEq]at hs
  ·cases hs;simp only[aP]at hv hi;subst hv;subst hi;exact fin (by simp[eqGuard_at_slice]) (by simp) (rK 9999 w hu _ _ _ _ _)
  ·rename_i ex len cs;cases len<;>simp only[pN,reduceCtorEq]at hs
   cases hs;simp only[aP]at hv hi;subst hv;obtain⟨ad,cap,rfl,_,_,h3⟩:=hi;rcases h3 with h3|⟨b,q,rfl,_⟩
   ·omega
   exact fin (by simp[eqGuard_at_slice]) (by simp) (rK 9999 w hu _ _ _ _ _)
  ·cases hs;simp only[aP]at hv hi;subst hv;obtain⟨l,b,_,_,rfl,_⟩:=hi;exact fin (by simp[eqGuard_at_slice]) (by simp) (rK 9999 w hu _ _ _ _ _)
  ·rename_i nm off sz len;cases len<;>simp only[pN,reduceCtorEq]at hs
   cases hs;simp only[aP]at hv hi;subst hv;obtain⟨⟨lb,lc⟩,cap,_,rfl,h3,_,h4⟩:=hi;cases lb with
   | none=>have:=h4 rfl;omega
   | some b=>exact fin (by simp[eqGuard_at_slice]) (by simp) (rK 9999 w hu _ _ _ _ _)
  ·rename_i ex len cs;cases len<;>simp only[pN,reduceCtorEq]at hs
   cases hs;simp only[aP]at hv hi;subst hi;obtain⟨ad,cap,rfl,_,_,h3⟩:=hv;rcases h3 with h3|⟨b,q,rfl,_⟩
   ·omega
   exact fin (by simp[eqGuard_at_slice]) (by simp) (vJ 9999 w hu _ _ _ _ _)
  ·cases hs;simp only[aP]at hv hi;subst hi;obtain⟨l,b,_,_,rfl,_⟩:=hv;exact fin (by simp[eqGuard_at_slice]) (by simp) (vJ 9999 w hu _ _ _ _ _)
  ·rename_i nm off sz len;cases len<;>simp only[pN,reduceCtorEq]at hs
   cases hs;simp only[aP]at hv hi;subst hi;obtain⟨⟨lb,lc⟩,cap,_,rfl,h3,_,h4⟩:=hv;cases lb with
   | none=>have:=h4 rfl;omega
   | some b=>exact fin (by simp[eqGuard_at_slice]) (by simp) (vJ 9999 w hu _ _ _ _ _)
 ·rename_i e hu;cases hk;cases d1<;>cases d2<;>simp only[pN,reduceCtorEq]at hs
  all_goals cases hs
  all_goals simp only[aP]at hv hi
  ·obtain⟨l,b,_,_,rfl⟩:=hv;subst hi;exact fin (by simp[eqGuard_at_pointer]) (by simp) (eqn_ptr2 9999 w hu _)
  ·obtain⟨b,q,rfl,_⟩:=hv;subst hi;exact fin (by simp[eqGuard_at_pointer]) (by simp) (eqn_ptr2 9999 w hu _)
  ·obtain⟨l,b,_,_,rfl⟩:=hi;subst hv;exact fin (by simp[eqGuard_at_pointer]) (by simp) (eqn_ptr1 9999 w hu _)
  ·obtain⟨b,q,rfl,_⟩:=hi;subst hv;exact fin (by simp[eqGuard_at_pointer]) (by simp) (eqn_ptr1 9999 w hu _)
  ·subst hv;subst hi;exact fin (by simp[eqGuard_at_pointer]) (by simp) (eqn_ptr1 9999 w hu _)
 ·rename_i ms hu;cases hk;cases d1<;>cases d2<;>simp only[pN,reduceCtorEq]at hs
  ·cases hs;simp only[aP]at hv hi;obtain⟨y,rfl,_⟩:=hv;subst hi;exact fin (by simp[eqGuard_at_iface]) (by simp) (eqn_ifc2 9999 w hu _ _)
  ·cases hs;simp only[aP]at hv hi;obtain⟨y,rfl,_⟩:=hi;subst hv;exact fin (by simp[eqGuard_nil_iface]) (by simp) (eqn_ifc1 9999 w hu _ _)
  ·cases hc:(tB o||tB p)<;>rw[hc]at hs
   ·cases hs
   ·simp at hs;subst hs;simp only[aP]at hv hi;subst hv;subst hi;refine fin ?_ (by simp) (eqn_ifc0 9999 w hu)
    cases o<;>cases p<;>simp[tB]at hc<;>first
     | simp[eqGuard_nil_constR]
     | simp[eqGuard_nil_constL]
 ·rename_i hu;cases hk;cases d1<;>cases d2<;>simp only[pN,reduceCtorEq]at hs
  all_goals cases hs
  all_goals simp only[aP]at hv hi
  ·obtain⟨va,vb,rfl,_⟩:=hv;subst hi;exact fin (by simp[eqGuard_at_func]) (by simp) (eqn_fn2 9999 w hu _ _ _)
  ·obtain⟨va,vb,rfl,_⟩:=hi;subst hv;exact fin (by simp[eqGuard_at_nilFunc]) (by simp) (eqn_fn1 9999 w hu _ _ _)
  ·subst hv;subst hi;exact fin (by simp[eqGuard_at_nilFunc]) (by simp) (eqn_fn0 9999 w hu)
 ·cases hk
theorem op_cmp(h:Rel E M0 w0 N μ a w x){neg:Bool}{t:TypeId}{o p:Operand}{k:EK}{ar pr:Arg}(hk:cmpK E.P t o p=some k)(h2:cS o=some ar)(h3:cS p=some pr){d:D}{x':AS}
  (hs:step E.G (.cmp neg k ar pr) x=some (d,x')) :
  gd E M0 w0 N μ w x a d x' w (do pure (.value (← (do eqGuard (bif neg then .neq else .eql) t o p (a.eval o) (a.eval p);binOp (bif neg then .neq else .eql) t (a.eval o) (a.eval p):Sem Value)))):=by
 have hv:=cP h h2;have hi:=cP h h3;simp only[stq,aG]at hs;obtain⟨r,hs,he⟩:=hs;cases he;exact hU.of h (bP (cmp_run hk hs hv hi)) (by simp only[aP])
end
section
variable {E:Env} {M0:Nat→Prop} {w0:World} {N:Nat} {μ:Mu} {M:Nat→Prop} {a:Act} {w:World} {x:AS}
theorem op_un(h:Rel E M0 w0 N μ a w x){op:UnOp}{o:Operand}{ar:Arg}(h2:cS o=some ar){d:D}{x':AS}
  (hs:step E.G (.un op ar) x=some (d,x')):gd E M0 w0 N μ w x a d x' w (do pure (.value (←Op.unary op (a.eval o)))):=by
 have hv:=cP h h2;simp only[stq,aG]at hs;obtain⟨d',hs,he⟩:=hs;cases he;generalize ar.ev E.G x.t=d1 at *;generalize a.eval o=v at *;cases op<;>cases d1<;>simp only[unD,reduceCtorEq]at hs
 ·cases hs;simp only[aP]at hv;subst hv;rename_i k n;exact hU.of (v:=.int k (k.wrap (0-n))) h (bP (by simp[Op.unary,Op.intArith])) (by simp only[aP,kH])
 ·obtain⟨n,rfl,hr⟩:=tO hs E.P w;simp only[aP]at hv;subst hv;exact hU.of h (bP (by simpa[Op.unary]using hr)) (by simp only[aP])
 ·cases hs;simp only[aP]at hv;subst hv;exact hU.of h (bP (by simp[Op.unary];rfl)) (by simp only[aP])
theorem iT{α:Type}:∀(ds cs:List α) (off:Nat),(eS cs off ds).length=cs.length
 | [],cs,off=>rfl
 | d::ds,cs,off=>by simp[eS,iT ds]
theorem aX.set{cs:List D}{vs:List Value}(h:aX (Mm M0 μ) w μ cs vs)(i:Nat){d:D}{v:Value}(hd:aP (Mm M0 μ) w μ d v):aX (Mm M0 μ) w μ (cs.set i d) (vs.set i v):=by
 refine aX.mk (by simp[h.length]) fun j e u he hu=>?_
 rw[List.getElem?_set]at he hu;have hl:=h.length;split at he
 ·rename_i hij;rw[aH hij]at hu;split at he
  ·rename_i hlt;rw[aH (by omega)]at hu
   cases he;cases hu;exact hd
  ·cases he
 ·rename_i hij;rw[aD hij]at hu;exact h.at he hu
theorem aX.setAt:∀{ds:List D} {us:List Value} {cs:List D} {vs:List Value} (off:Nat),aX (Mm M0 μ) w μ cs vs→aX (Mm M0 μ) w μ ds us→aX (Mm M0 μ) w μ (eS cs off ds) (Zv.eS vs off us)
 | [],us,cs,vs,off,h,h'=>by
  simp only[aX]at h';subst h';exact h
 | d::ds,us,cs,vs,off,h,h'=>by
  simp only[aX]at h';obtain⟨v,r,rfl,h1,h2⟩:=h';simp only[Zv.eS];exact aX.setAt (off+1) (h.set off h1) h2
theorem foldl_set(off:Nat):∀(l:List Value) (k:Nat) (cells:Array Value),
  ((l.zipIdx k).foldl (fun(cs:Array Value) (p:Value×Nat)=>cs.setIfInBounds (off+p.2) p.1) cells).toList=eS cells.toList (off+k) l
 | [],k,cells=>rfl
 | v::l,k,cells=>by
  simp only[List.zipIdx_cons,List.foldl_cons,eS];rw[foldl_set off l (k+1)];simp[Nat.add_assoc]
theorem tH(h:Rel E M0 w0 N μ a w x)(pl:Nat→Option (Nat×Nat))(g:Nat×Operand→Option (Nat×Nat×Arg))
  (hg:∀p q,g p=some q→pl p.1=some (q.1,q.2.1)∧cS p.2=some q.2.2) :
  ∀(ps:List (Nat×Operand)) (l:List (Nat×Nat×Arg)),ps.mapM g=some l→∀(cs out:List D) (vs:Array Value),aX (Mm M0 μ) w μ cs vs.toList→place cs (parts E.G x.t l)=some out →
   ∃arr,Instr.fill pl vs (ps.map fun p=>(p.1,a.eval p.2))=some arr∧aX (Mm M0 μ) w μ out arr.toList
 | [],l,hl,cs,out,vs,hr,ho=>by
  simp at hl;subst hl;simp[parts,place]at ho;subst ho;exact⟨vs,rfl,hr⟩
 | p::ps,l,hl,cs,out,vs,hr,ho=>by
  simp only[List.mapM_cons,aB,aA,Option.pure_def,aC]at hl;obtain⟨q,hq,l',hl',rfl⟩:=hl;obtain⟨h1,h2⟩:=hg p q hq;simp only[parts,bW,place]at ho;split at ho
  ·rename_i ds hds;cases hcond:(Nat.beq ds.length q.2.1&&Nat.ble (q.1+q.2.1) cs.length)<;>rw[hcond]at ho
   ·cases ho
   ·simp only[aS,bE]at ho hcond;have e1:=aR hcond.1;have e2:=cO hcond.2;have hcells:=lP hds (cP h h2);have hlen:=hcells.length;have hlen2:=hr.length;simp only[eP]at hlen hlen2;simp only[bW,Instr.fill,h1];rw[aD (by simp;omega)]
    have hset:((a.eval p.2).cells.zipIdx.foldl (fun(cs:Array Value) (x:Value×Nat)=>match x with|(c,j)=>cs.setIfInBounds (q.1+j) c) vs).toList=eS vs.toList q.1 (a.eval p.2).cells.toList:=by
     have:=foldl_set q.1 (a.eval p.2).cells.toList 0 vs;rw[Nat.add_zero]at this;rw[←this,←Array.foldl_toList,Array.toList_zipIdx]
    exact tH h pl g hg ps l' hl' _ out _ (by rw[hset];exact aX.setAt q.1 hr hcells) ho
  ·cases ho
theorem uU{P:Program}{α β:Type}{f:α→Sem β}{g:α→β}{w:World}:∀(l:List α),(∀y∈l,(f y).run P w = .ok (g y) w)→(l.mapM f).run P w = .ok (l.map g) w
 | [],_=>by simp
 | y::l,h=>by
  simp only[List.mapM_cons,aY,h y (by simp),aM,uU l (fun z hz=>h z (by simp[hz])),bO,bW]
theorem op_bld_struct(h:Rel E M0 w0 N μ a w x){t:TypeId}{fs:Array Field}{ps:Array (Nat×Operand)}{cells:List D}{zd:D}(hz:iR E.P t=some zd)(hc:tQ zd=some cells)
  (hu:E.P.underlying t=some (.struct fs)) {l:List (Nat×Nat×Arg)}
  (hl:ps.toList.mapM (fun(p:Nat×Operand)=>do
    let f ←fs[p.1]?
    let s ←iE E.P f.type
    let a ←cS p.2
    some (f.offset,s,a))=some l) (hall:fs.all (fun f=>(E.P.info? f.type).isSome)=true) {d:D} {x':AS}
  (hs:step E.G (.bld cells l) x=some (d,x')):gd E M0 w0 N μ w x a d x' w (do pure (.value (←Instr.build t (ps.map fun(i,x)=>(i,a.eval x))))):=by
 simp only[stq,aG]at hs;obtain⟨out,ho,he⟩:=hs;cases he;simp only[iR,aB,aA]at hz;obtain⟨i,hi,v,hv,hz⟩:=hz;have hzr:=kC (M0:=M0) (w:=w) (μ:=μ) _ _ _ hz;cases zd<;>simp only[tQ,reduceCtorEq,aC]at hc
 subst hc;simp only[aP]at hzr;obtain⟨vs,rfl,hzr⟩:=hzr
 let pls:Array (Nat×Nat):=fs.map fun f=>(f.offset,(iE E.P f.type).getD 0)
 obtain⟨arr,hfill,hr⟩:=tH h (pls[·]?) _ (fun p q hq=>by
  simp only[aB,aA,aC]at hq;obtain⟨f,hf,s,hs,ar,har,rfl⟩:=hq;exact⟨by simp[pls,hf,hs],har⟩) ps.toList l hl _ out vs hzr ho
 refine hU.of (v:=.agg arr) h (bP ?_) (by simp only[aP];exact⟨arr,rfl,hr⟩)
 have hm:(fs.mapM fun f=>(do pure (f.offset,←Go.sizeOf f.type):Sem (Nat×Nat))).run E.P w = .ok pls w:=by
  rw[Array.mapM_eq_mapM_toList];simp only[Sem.run_map];rw[uU (g:=fun f=>(f.offset,(iE E.P f.type).getD 0))]
  ·simp only[aM,pls]
   congr 1
   apply Array.ext';simp
  ·intro f hf;have hall':∀g∈fs.toList,(E.P.info? g.type).isSome=true:=by
    rw[←Array.all_toList,cE]at hall;exact hall
   obtain⟨inf,hinf⟩:=eA.1 (hall' f hf);have hsz:iE E.P f.type=some inf.size:=by simp[iE,hinf]
   simp[dO hsz,hsz]
 simp only[Instr.build,aY,zeroValue,eE hi,hv,aM,bO,aZ hu,hm,Value.cells];have hp:(ps.map fun(p:Nat×Operand)=>(p.1,a.eval p.2)).toList=ps.toList.map fun p=>(p.1,a.eval p.2):=by simp
 rw[show(ps.map fun(x:Nat×Operand)=>match x with|(i,x)=>(i,a.eval x))=ps.map fun p=>(p.1,a.eval p.2) from rfl,hp,hfill]
 rfl
theorem op_bld_array(h:Rel E M0 w0 N μ a w x){t e:TypeId}{n s:Nat}{ps:Array (Nat×Operand)}{cells:List D}{zd:D}(hz:iR E.P t=some zd)(hc:tQ zd=some cells)
  (hu:E.P.underlying t=some (.array n e)) (hsz:iE E.P e=some s) {l:List (Nat×Nat×Arg)}
  (hl:ps.toList.mapM (fun(p:Nat×Operand)=>do
    let a ←cS p.2
    some (p.1*s,s,a))=some l) {d:D} {x':AS}
  (hs:step E.G (.bld cells l) x=some (d,x')):gd E M0 w0 N μ w x a d x' w (do pure (.value (←Instr.build t (ps.map fun(i,x)=>(i,a.eval x))))):=by
 simp only[stq,aG]at hs;obtain⟨out,ho,he⟩:=hs;cases he;simp only[iR,aB,aA]at hz;obtain⟨i,hi,v,hv,hz⟩:=hz;have hzr:=kC (M0:=M0) (w:=w) (μ:=μ) _ _ _ hz;cases zd<;>simp only[tQ,reduceCtorEq,aC]at hc
 subst hc;simp only[aP]at hzr;obtain⟨vs,rfl,hzr⟩:=hzr;obtain⟨arr,hfill,hr⟩:=tH h (fun i=>some (i*s,s)) _ (fun p q hq=>by
  simp only[aB,aA,aC]at hq;obtain⟨ar,har,rfl⟩:=hq;exact⟨rfl,har⟩) ps.toList l hl _ out vs hzr ho
 refine hU.of (v:=.agg arr) h (bP ?_) (by simp only[aP];exact⟨arr,rfl,hr⟩)
 simp only[Instr.build,aY,zeroValue,eE hi,hv,aM,bO,aZ hu,dO hsz,Value.cells];have hp:(ps.map fun(p:Nat×Operand)=>(p.1,a.eval p.2)).toList=ps.toList.map fun p=>(p.1,a.eval p.2):=by simp
 rw[show(ps.map fun(x:Nat×Operand)=>match x with|(i,x)=>(i,a.eval x))=ps.map fun p=>(p.1,a.eval p.2) from rfl,hp,hfill]
 rfl
/-! Cuts. -/
theorem lE{o:Option Operand}(h:jM o=some none):o=none:=by
 cases o with
 | none=>rfl
 | some y=>simp[jM]at h
theorem vO{o:Option Operand}{ar:Arg}(h:jM o=some (some ar)):∃y,o=some y∧cS y=some ar:=by
 cases o with
 | none=>simp[jM]at h
 | some y=>simp[jM]at h;exact⟨y,rfl,h⟩
theorem oA{P:Program}{n r:Nat}{d:D}{v:Value}(hb:uO n d=some r)(hv:aP (Mm M0 μ) w μ d v){c:Nat}(hc:n≤c)(code:BoundsCode)(w':World):
  (Instr.sliceBound v c code).run P w' = .ok r w'∧r≤n:=by
 cases d<;>simp only[uO,reduceCtorEq]at hb
 rename_i k i;split at hb
 ·rename_i hi;cases hb;simp only[aP]at hv;subst hv;refine⟨?_,by omega⟩
  have:i≤(c:Int):=by omega
  simp[Instr.sliceBound,asIntOf,hi.1,this]
 ·cases hb
theorem run_bounds{P:Program}{b:Bool}{len C rm rh rl:Nat}{lv hv mv:Option Value}{w:World}
  (b1:∀v,mv=some v→∀code,(Instr.sliceBound v C code).run P w = .ok rm w) (b1':mv=none→rm=C)
  (b2:∀v,hv=some v→∀code,(Instr.sliceBound v rm code).run P w = .ok rh w) (b2':hv=none→rh=len∧mv=none)
  (b3:∀v,lv=some v→∀code,(Instr.sliceBound v rh code).run P w = .ok rl w) (b3':lv=none→rl=0) :
  (Instr.sliceBounds b len C lv hv mv).run P w = .ok (rl,rh,rm) w:=by
 cases lv with
 | none=>
  have:=b3' rfl;subst this;cases hv with
  | none=>
   obtain⟨rfl,rfl⟩:=b2' rfl;have:=b1' rfl;subst this;simp[Instr.sliceBounds]
  | some h=>
   cases mv with
   | none=>
    have:=b1' rfl;subst this;simp[Instr.sliceBounds,b2 h rfl]
   | some m=>simp[Instr.sliceBounds,b1 m rfl,b2 h rfl]
 | some l=>
  cases hv with
  | none=>
   obtain⟨rfl,rfl⟩:=b2' rfl;have:=b1' rfl;subst this;simp[Instr.sliceBounds,b3 l rfl]
  | some h=>
   cases mv with
   | none=>
    have:=b1' rfl;subst this;simp[Instr.sliceBounds,b2 h rfl,b3 l rfl]
   | some m=>simp[Instr.sliceBounds,b1 m rfl,b2 h rfl,b3 l rfl]
theorem lF(h:Rel E M0 w0 N μ a w x){l hi m:Option Operand}{l' h' m':Option Arg}(hl:jM l=some l')(hh:jM hi=some h')(hm:jM m=some m')
  (hno:¬(h'=none∧m'≠none)) {len c C rm rh rl:Nat} (hcC:c≤C) (hlc:len≤c) (b1:fT c c (m'.map (·.ev E.G x.t))=some rm) (b2:fT rm len (h'.map (·.ev E.G x.t))=some rh)
  (b3:fT rh 0 (l'.map (·.ev E.G x.t))=some rl) (b:Bool) :
  (Instr.sliceBounds b len C (l.map a.eval) (hi.map a.eval) (m.map a.eval)).run E.P w = .ok (rl,rh,bif m'.isSome then rm else C) w∧rl≤rh∧rh≤rm∧rm≤c:=by
 have hm1:rm≤c∧(m'=none→rm=c)∧∀v,m.map a.eval=some v→∀code,(Instr.sliceBound v C code).run E.P w = .ok rm w:=by
  cases m' with
  | none=>
   rw[lE hm];simp[fT]at b1;subst b1;exact⟨aJ _,fun _=>rfl,fun v hv=>by cases hv⟩
  | some mr=>
   obtain⟨y,rfl,hy⟩:=vO hm;simp only[bJ,fT]at b1;refine⟨(oA (P:=E.P) b1 (cP h hy) hcC .index w).2,(fun e=>by cases e),fun v hv code=>?_⟩
   simp only[bJ,aC]at hv;subst hv;exact(oA (P:=E.P) b1 (cP h hy) hcC code w).1
 have hh1:rh≤rm∧(h'=none→rh=len)∧∀v,hi.map a.eval=some v→∀n,rm≤n→∀code,(Instr.sliceBound v n code).run E.P w = .ok rh w:=by
  cases h' with
  | none=>
   rw[lE hh];simp[fT]at b2;subst b2;refine⟨?_,fun _=>rfl,fun v hv=>by cases hv⟩
   cases m' with
   | none=>rw[hm1.2.1 rfl];exact hlc
   | some y=>exact absurd ⟨rfl,by simp⟩ hno
  | some ar=>
   obtain⟨y,rfl,hy⟩:=vO hh;simp only[bJ,fT]at b2;refine⟨(oA (P:=E.P) b2 (cP h hy) (aJ _) .index w).2,(fun e=>by cases e),fun v hv n hn code=>?_⟩
   simp only[bJ,aC]at hv;subst hv;exact(oA (P:=E.P) b2 (cP h hy) hn code w).1
 have hl1:rl≤rh∧(l'=none→rl=0)∧∀v,l.map a.eval=some v→∀code,(Instr.sliceBound v rh code).run E.P w = .ok rl w:=by
  cases l' with
  | none=>
   rw[lE hl];simp[fT]at b3;subst b3;exact⟨dK _,fun _=>rfl,fun v hv=>by cases hv⟩
  | some ar=>
   obtain⟨y,rfl,hy⟩:=vO hl;simp only[bJ,fT]at b3;refine⟨(oA (P:=E.P) b3 (cP h hy) (aJ _) .index w).2,(fun e=>by cases e),fun v hv code=>?_⟩
   simp only[bJ,aC]at hv;subst hv;exact(oA (P:=E.P) b3 (cP h hy) (aJ _) code w).1
 refine⟨?_,hl1.1,hh1.1,hm1.1⟩;have e1:∀{o:Option Operand} {r:Option Arg},jM o=some r→o.map a.eval=none→r=none:=by
  intro o r hr he;cases o with
  | none=>simp[jM]at hr;exact hr.symm
  | some y=>cases he
 refine run_bounds ?_ ?_ ?_ ?_ hl1.2.2 (fun he=>hl1.2.1 (e1 hl he))
 ·intro v hv code;have:=hm1.2.2 v hv code;cases m' with
  | none=>rw[lE hm]at hv;cases hv
  | some y=>exact this
 ·intro he;rw[e1 hm he];rfl
 ·intro v hv code;refine hh1.2.2 v hv _ ?_ code;cases m' with
  | none=>have:=hm1.2.1 rfl;simp;omega
  | some y=>exact aJ _
 ·intro he;have:=e1 hh he;refine⟨hh1.2.1 this,?_⟩;cases m' with
  | none=>rw[lE hm];rfl
  | some y=>exact absurd ⟨this,by simp⟩ hno
theorem op_slS(h:Rel E M0 w0 N μ a w x){t:TypeId}(hu:E.P.underlying t=some .string){o:Operand}{l hi:Option Operand}{ar:Arg}{l' h':Option Arg}(h2:cS o=some ar)
  (hl:jM l=some l') (hh:jM hi=some h') {d:D} {x':AS} (hs:step E.G (.slS ar l' h') x=some (d,x')) :
  gd E M0 w0 N μ w x a d x' w (do pure (.value (←Instr.sliceAt t (a.eval o) (l.map a.eval) (hi.map a.eval) ((none:Option Operand).map a.eval)))):=by
 have hv:=cP h h2;simp only[stq]at hs;split at hs
 ·rename_i s he;rw[he]at hv;simp only[aP]at hv;simp only[aB,aA]at hs;obtain⟨rh,b2,rl,b3,hs⟩:=hs;cases hs;obtain⟨hrun,h3,h4,h5⟩:=lF (m:=none) (m':=none) h hl hh rfl (by simp) (aJ _) (aJ _) (show fT s.length s.length none=some s.length from rfl) b2 b3 false
  refine hU.of (v:=.string ((⟨s.toArray⟩:ByteArray).extract rl rh)) h (bP ?_) ?_
  ·have hsz:(⟨s.toArray⟩:ByteArray).size=s.length:=by simp[ByteArray.size]
   simp only[Instr.sliceAt,aY,aZ hu,aM,Instr.slice,hv,hsz,Option.map_none,Option.isSome_none,cN,eV,bO]at hrun ⊢;rw[hrun];rfl
  ·simp only[aP,Value.string.injEq];apply ByteArray.ext;simp only[ByteArray.data_extract];apply Array.ext';rw[Array.toList_extract,List.extract_eq_take_drop,List.drop_take]
 ·cases hs
theorem mV{P:Program}{t e:TypeId}{sz:Nat}(hu:P.underlying t=some (.slice e))(hsz:iE P e=some sz){ad:Option Addr}{len cap:Nat}{l h m:Option Value}{rl rh rm:Nat}{w:World}
  (hb:(Instr.sliceBounds true len cap l h m).run P w = .ok (rl,rh,rm) w) :
  (Instr.sliceAt t (.slice ad len cap) l h m).run P w = .ok (.slice (if rm=rl then ad else ad.map (·.add (rl*sz))) (rh-rl) (rm-rl)) w:=by
 simp only[Instr.sliceAt,aY,aZ hu,aM,Instr.slice,hb,dO hsz,bO]
theorem op_slV(h:Rel E M0 w0 N μ a w x){t e:TypeId}{sz:Nat}(hu:E.P.underlying t=some (.slice e))(hsz:iE E.P e=some sz){o:Operand}{l hi m:Option Operand}{ar:Arg}{l' h' m':Option Arg}
  (h2:cS o=some ar) (hl:jM l=some l') (hh:jM hi=some h') (hm:jM m=some m') (hno:¬(h'=none∧m'≠none)) {d:D} {x':AS} (hs:step E.G (.slV sz ar l' h' m') x=some (d,x')) :
  gd E M0 w0 N μ w x a d x' w (do pure (.value (←Instr.sliceAt t (a.eval o) (l.map a.eval) (hi.map a.eval) (m.map a.eval)))):=by
 have hv:=cP h h2;simp only[stq]at hs;split at hs
 ·rename_i he;rw[he]at hv;simp only[aP]at hv;simp only[aB,aA]at hs;obtain⟨rm,b1,rh,b2,rl,b3,hs⟩:=hs;cases hs;obtain⟨hrun,h3,h4,h5⟩:=lF h hl hh hm hno (aJ _) (aJ _) b1 b2 b3 true;refine hU.of h (bP (by rw[hv];exact mV hu hsz hrun)) ?_
  have e1:rm=0:=by omega
  have e2:rh=0:=by omega
  have e3:rl=0:=by omega
  subst e1;subst e2;subst e3;simp only[aP];cases m'.isSome<;>simp
 ·rename_i ex len cs he;rw[he]at hv;simp only[aP]at hv;obtain⟨ad,cap,hv,h6,h7,h8⟩:=hv;simp only[aB,aA]at hs;obtain⟨rm,b1,rh,b2,rl,b3,hs⟩:=hs;cases hcond:Nat.ble (rh*sz) cs.length<;>rw[hcond]at hs
  ·cases hs
  simp only[aS,aC,dZ]at hs;obtain⟨rfl,rfl⟩:=hs;obtain⟨hrun,h3,h4,h5⟩:=lF h hl hh hm hno h6 (aJ _) b1 b2 b3 true;refine hU.of h (bP (by rw[hv];exact mV hu hsz hrun)) ?_
  simp only[aP];refine⟨_,_,rfl,?_,?_,?_⟩
  ·cases m'.isSome<;>simp<;>omega
  ·intro hex;cases m' with
   | none=>
    simp at hex;have:=h7 hex.1;have:=hex.2;simp;omega
   | some mm=>
    simp at hex;have:=hex;simp;omega
  ·by_cases h0:rh-rl=0
   ·exact .inl h0
   ·right
    rcases h8 with h8|⟨b,q,rfl,h9,h10,h11⟩
    ·omega
    ·refine⟨b,q+rl*sz,?_,h9,h10,(h11.drop _).take _⟩;have hne:¬(bif m'.isSome then rm else cap)=rl:=by cases m'.isSome<;>simp<;>omega
     rw[aD hne];simp[Addr.add_lit]
 ·rename_i nm off z len c he;rw[he]at hv;simp only[aP]at hv;obtain⟨lo,b,h6,h7,hv,h8,h9⟩:=hv;simp only[aB,aA]at hs;obtain⟨rm,b1,rh,b2,rl,b3,hs⟩:=hs;cases hz:Nat.beq z sz<;>rw[hz]at hs
  ·cases hs
  have hz':=aR hz;subst hz';simp only[aS,aC,dZ]at hs;obtain⟨rfl,rfl⟩:=hs;obtain⟨hrun,h3,h4,h5⟩:=lF h hl hh hm hno (aJ _) h8 b1 b2 b3 true;have hrm:(bif m'.isSome then rm else c)=rm:=by
   cases m' with
   | none=>simp[fT]at b1;simp[b1]
   | some y=>rfl
  rw[hrm]at hrun;refine hU.of h (bP (by rw[hv];exact mV hu hsz hrun)) ?_
  simp only[aP];refine⟨lo,b,h6,h7,?_,by omega,?_⟩
  ·by_cases hmr:rm=rl
   ·subst hmr;simp
   ·simp[hmr,iY hmr,Addr.add_lit]
  ·by_cases hmr:rm=rl
   ·subst hmr;simp;exact fW (Nat.le_add_right _ _) h9
   ·rw[iY hmr];simp only[cF];have:rl*z+(rm-rl)*z=rm*z:=by rw[←Nat.add_mul];congr 1;omega
    have:rm*z≤c*z:=Nat.mul_le_mul_right _ h5;omega
 ·rename_i nm off z len he;rw[he]at hv;simp only[aP]at hv;obtain⟨lo,cap,h6,hv,h8,h9,h10⟩:=hv;split at hs
  ·simp only[aB,aA]at hs;obtain⟨rh,b2,rl,b3,hs⟩:=hs;cases hz:Nat.beq z sz<;>rw[hz]at hs
   ·cases hs
   have hz':=aR hz;subst hz';obtain⟨hrun,h3,h4,h5⟩:=lF h hl hh hm hno h8 (aJ _) (show fT len len (Option.map (fun y:Arg=>y.ev E.G x.t) none)=some len from rfl) b2 b3 true
   simp only[Option.isSome_none,cF]at hrun;simp only[aS]at hs;have hres:=mV (ad:=lo.blk.map fun b=>⟨b,off,none⟩) hu hsz hrun
   cases h0:Nat.beq rl 0<;>rw[h0]at hs
   ·cases hlt:Nat.blt rl rh<;>rw[hlt]at hs
    ·simp only[cF,aC,dZ]at hs;obtain⟨rfl,rfl⟩:=hs;refine hU.of h (bP (by rw[hv];exact hres)) ?_
     simp only[aP];have:¬rl<rh:=fun hc=>by rw[←Nat.blt_eq]at hc;rw[hc]at hlt;cases hlt
     have e:rh-rl=0:=by omega
     exact⟨_,_,by rw[e],dK _,(fun hh=>by simp at hh),Or.inl trivial⟩
    ·simp only[cF,aS,aC,dZ]at hs;obtain⟨rfl,rfl⟩:=hs;have hlt':rl<rh:=by simpa[Nat.blt_eq]using hlt
     refine hU.of h (bP (by rw[hv];exact hres)) ?_
     simp only[aP];refine⟨lo,cap-rl,h6,?_,by omega,?_,fun hn=>by have:=h10 hn;omega⟩
     ·rw[aD (by omega)]
      cases lo.blk<;>simp[Addr.add_lit]
     ·have:rl*z+(cap-rl)*z=cap*z:=by rw[←Nat.add_mul];congr 1;omega
      omega
   ·have e0:=aR h0;subst e0;simp only[aS,aC,dZ]at hs;obtain⟨rfl,rfl⟩:=hs;refine hU.of h (bP (by rw[hv];exact hres)) ?_
    simp only[aP];refine⟨lo,cap,h6,?_,by omega,h9,h10⟩
    cases lo.blk<;>simp[Addr.add_zero']
  ·rename_i mr;simp only[aB,aA]at hs;obtain⟨rm,b1,rh,b2,rl,b3,hs⟩:=hs;cases hz:(Nat.beq z sz&&Nat.blt 0 len)<;>rw[hz]at hs
   ·cases hs
   simp only[bE]at hz;have hz':=aR hz.1;have hlen:0<len:=by simpa[Nat.blt_eq]using hz.2
   subst hz';simp only[aS,aC,dZ]at hs;obtain⟨rfl,rfl⟩:=hs;obtain⟨hrun,h3,h4,h5⟩:=lF h hl hh hm hno h8 (aJ _) (show fT len len (Option.map (fun y:Arg=>y.ev E.G x.t) (some mr))=some rm from b1) b2 b3 true
   simp only[Option.isSome_some,aS]at hrun;have hres:=mV (ad:=lo.blk.map fun b=>⟨b,off,none⟩) hu hsz hrun
   refine hU.of h (bP (by rw[hv];exact hres)) ?_
   simp only[aP];cases hb:lo.blk with
   | none=>have:=h10 hb;omega
   | some b=>
    refine⟨lo,b,h6,hb,?_,by omega,?_⟩
    ·by_cases hmr:rm=rl
     ·subst hmr;simp
     ·simp[hmr,iY hmr,Addr.add_lit]
    ·by_cases hmr:rm=rl
     ·subst hmr;simp;exact fW (Nat.le_add_right _ _) (Nat.le_of_eq h9)
     ·rw[iY hmr];simp only[cF];have:rl*z+(rm-rl)*z=rm*z:=by rw[←Nat.add_mul];congr 1;omega
      have:rm*z≤cap*z:=Nat.mul_le_mul_right _ (by omega)
      omega
 ·cases hs
theorem run_slice_a{P:Program}{t e:TypeId}{n sz:Nat}(hu:P.underlying t=some (.array n e))(hsz:iE P e=some sz){b off:Nat}{l h m:Option Value}{rl rh rm:Nat}{w:World}
  (hb:(Instr.sliceBounds false n n l h m).run P w = .ok (rl,rh,rm) w) :
  (Instr.sliceAt t (.pointer (some ⟨b,off,none⟩)) l h m).run P w = .ok (.slice (some (if rm=rl then⟨b,off,none⟩ else⟨b,off+rl*sz,none⟩)) (rh-rl) (rm-rl)) w:=by
 simp only[Instr.sliceAt,aY,aZ hu,aM,Instr.sureAddr,hb,dO hsz,bO,Addr.add_lit]
theorem op_slA(h:Rel E M0 w0 N μ a w x){t e:TypeId}{n sz:Nat}(hu:E.P.underlying t=some (.array n e))(hsz:iE E.P e=some sz){o:Operand}{l hi m:Option Operand}{ar:Arg}{l' h' m':Option Arg}
  (h2:cS o=some ar) (hl:jM l=some l') (hh:jM hi=some h') (hm:jM m=some m') (hno:¬(h'=none∧m'≠none)) {d:D} {x':AS} (hs:step E.G (.slA n sz ar l' h' m') x=some (d,x')) :
  gd E M0 w0 N μ w x a d x' w (do pure (.value (←Instr.sliceAt t (a.eval o) (l.map a.eval) (hi.map a.eval) (m.map a.eval)))):=by
 have hv:=cP h h2;simp only[stq,aB,aA]at hs;obtain⟨rm,b1,rh,b2,rl,b3,hs⟩:=hs;obtain⟨hrun,h3,h4,h5⟩:=lF h hl hh hm hno (aJ _) (aJ _) b1 b2 b3 false;have hrm:(bif m'.isSome then rm else n)=rm:=by
  cases m' with
  | none=>simp[fT]at b1;simp[b1]
  | some y=>rfl
 rw[hrm]at hrun;split at hs
 ·rename_i nm off he;rw[he]at hv;simp only[aP]at hv;obtain⟨lo,b,h6,h7,hv⟩:=hv;simp only[aA]at hs;obtain⟨blk,hg,cs,hbc,hs⟩:=hs;cases hcond:Nat.ble (off+rm*sz) cs.length<;>rw[hcond]at hs
  ·cases hs
  have hle:=cO hcond;simp only[aS,aC,dZ]at hs;obtain⟨rfl,rfl⟩:=hs;obtain⟨l0,k1,k2,k3⟩:=mQ h h6 hg hbc;rw[h6]at k1;cases k1;obtain⟨_,_,vs,ee,fz,_,_,k4,k5,_⟩:=k3 b h7;refine hU.of h (bP (by rw[hv];exact run_slice_a hu hsz hrun)) ?_
  simp only[aP];refine⟨lo,b,h6,h7,?_,by omega,?_⟩
  ·by_cases hmr:rm=rl
   ·subst hmr;simp
   ·simp[hmr,iY hmr]
  ·by_cases hmr:rm=rl
   ·subst hmr;simp;omega
   ·rw[iY hmr];simp only[cF];have:rl*sz+(rm-rl)*sz=rm*sz:=by rw[←Nat.add_mul];congr 1;omega
    omega
 ·rename_i cs off he;rw[he]at hv;simp only[aP]at hv;obtain⟨b,q,hv,h6,h7,h8⟩:=hv;cases hcond:Nat.ble (off+rh*sz) cs.length<;>rw[hcond]at hs
  ·cases hs
  simp only[aS,aC,dZ]at hs;obtain⟨rfl,rfl⟩:=hs;refine hU.of h (bP (by rw[hv];exact run_slice_a hu hsz hrun)) ?_
  simp only[aP];refine⟨_,_,rfl,by omega,fun he=>?_,?_⟩
  ·have:=aR he;omega
  ·by_cases h0:rh-rl=0
   ·exact .inl h0
   ·refine .inr ⟨b,q+(off+rl*sz),?_,h6,h7,(h8.drop _).take _⟩;rw[aD (by omega)]
    simp[Nat.add_assoc]
 ·cases hs
/-! Lengths, numbers. -/
theorem lenD_rel{P:Program}{t:TypeId}{ty:TypeId}{st:Bool}{d:D}{v:Value}{n:Nat}(hn:lenD st d=some n)(hv:aP (Mm M0 μ) w μ d v)
  (hu:if st then P.underlying t=some .string else ∃e,P.underlying t=some (.slice e)) (w':World):(Builtin.len_ #[t] ty #[v]).run P w' = .ok (.int .i64 n) w':=by
 cases st
 ·simp only[cN,eV]at hu;obtain⟨e,hu⟩:=hu;cases d<;>simp only[lenD,aC,reduceCtorEq]at hn
  all_goals subst hn;simp only[aP]at hv
  ·subst hv;simp[Builtin.len_,aZ hu,goInt]
  ·obtain⟨ad,cap,rfl,_⟩:=hv;simp[Builtin.len_,aZ hu,goInt]
  ·obtain⟨l,b,_,_,rfl,_⟩:=hv;simp[Builtin.len_,aZ hu,goInt]
  ·obtain⟨l,b,_,rfl,_⟩:=hv;simp[Builtin.len_,aZ hu,goInt]
 ·simp only[if_true]at hu;cases d<;>simp only[lenD,aC,reduceCtorEq]at hn
  subst hn;simp only[aP]at hv;subst hv;simp only[Builtin.len_,aZ hu,aY,aM,goInt,bO,List.getElem?_toArray,aT];simp;rfl
end
end Zv
