/- The operations of the model do what the abstract ones say: those that write nothing. Conditions: none. -/
import Derived.Test.YtnpoohbeicakkaaGreatDoorZAB
import Derived.Laws.StructEq
import Derived.BigFrame
set_option linter.unusedSimpArgs false
set_option linter.unusedVariables false
namespace Zv
open Go
section
variable {E:Env} {M0:Nat→Prop} {w0:World} {N:Nat} {μ:Mu} {M:Nat→Prop} {a:Act} {w:World} {x:AS}
variable {P:Program} {o:Operand} {ar:Arg} {d:D} {x':AS} {t e:TypeId} {sz i n:Nat} {fs:Array Field} {k:IntKind} {op:BinOp}
abbrev gd(E:Env)(M0:Nat→Prop)(w0:World)(N:Nat)(μ:Mu)(w:World)(x:AS)(a:Act)(d:D)(x':AS)(w':World)(s:Sem Next):Prop:=iD E M0 w0 N μ w x a d x' (s.run E.P w')
theorem bU{s:Sem Value}{v:Value}{w w':World}(h:s.run P w = .ok v w'):(do pure (.value (←s)):Sem Next).run P w = .ok (.value v) w':=by
 simp[h]
theorem op_mv(h:Rel E M0 w0 N μ a w x)(hc:dI o=some ar)(hs:step E.G (.mv ar) x=some (d,x')):
  gd E M0 w0 N μ w x a d x' w (pure (.value (a.eval o))):=by
 simp[stq]at hs;obtain⟨rfl,rfl⟩:=hs;exact iD.of h (by simp) (cW h hc)
theorem op_pick(h:Rel E M0 w0 N μ a w x){c p q:Operand}{c' p' q':Arg}(h1:dI c=some c')(h2:dI p=some p')(h3:dI q=some q') 
  (hs:step E.G (.pick c' p' q') x=some (d,x')) :
  gd E M0 w0 N μ w x a d x' w (do pure (.value (if ←asBool (a.eval c) then a.eval p else a.eval q))):=by
 have hv:=cW h h1;simp only[stq]at hs;split at hs
 ·rename_i b hb;rw[hb]at hv;simp only[aY]at hv;simp at hs;obtain⟨rfl,rfl⟩:=hs;cases b
  ·exact iD.of h (by simp[hv,asBool]) (cW h h3)
  ·exact iD.of h (by simp[hv,asBool]) (cW h h2)
 ·cases hs
theorem op_ld(h:Rel E M0 w0 N μ a w x){sz:Option Nat}(h1:cSz E.P t=some sz)(h2:dI o=some ar) 
  (hs:step E.G (.ld sz ar) x=some (d,x')):gd E M0 w0 N μ w x a d x' w (do pure (.value (←Instr.loadAt t (a.eval o)))):=by
 have hv:=cW h h2;simp only[stq,aC,aB,aD]at hs;obtain⟨⟨cs,off⟩,hse,d',hta,hs⟩:=hs;cases hs;obtain⟨b,p,Lw,Dc⟩:=seen_rel h hse hv;obtain⟨v,zV,hr⟩:=rX (P:=E.P) h1 hta Dc
 simp_all [iD.of,bU,Instr.loadAt,Instr.sureAddr]
theorem run_fieldAt{f:Field}{s b o:Nat}(hu:P.underlying t=some (.struct fs))(hf:fs[i]?=some f) 
  (Ae:iN P f.type=some s) (h0:Nat.beq s 0=false) (w:World) :
  (Instr.fieldAt t (.pointer (some ⟨b,o,none⟩)) i).run P w = .ok (.pointer (some ⟨b,o+f.offset,none⟩)) w:=by
 have Ie:s≠0:=fun e=>by simp_all
 simp_all [Instr.fieldAt,bL,Instr.sureAddr,fieldPlace,eB,Addr.add_lit]
theorem op_fa(h:Rel E M0 w0 N μ a w x){f:Field}{s:Nat}(hu:E.P.underlying t=some (.struct fs))(hf:fs[i]?=some f) 
  (Ae:iN E.P f.type=some s) (h0:Nat.beq s 0=false) {o:Operand} {ar:Arg} (h2:dI o=some ar) {d:D} {x':AS}
  (hs:step E.G (.fa f.offset ar) x=some (d,x')):gd E M0 w0 N μ w x a d x' w (do pure (.value (←Instr.fieldAt t (a.eval o) i))):=by
 have hv:=cW h h2;simp only[stq]at hs;split at hs
 ·rename_i nm off he;rw[he]at hv;simp only[aY]at hv;obtain⟨l,b,h3,h4,h5⟩:=hv;cases hs;refine iD.of h (bU (by rw[h5];exact run_fieldAt hu hf Ae h0 w)) ?_
  grind [aY]
 ·rename_i cs off he;rw[he]at hv;simp only[aY]at hv;obtain⟨b,p,h5,h3,h4,h6⟩:=hv;cases hs;refine iD.of h (bU (by rw[h5];exact run_fieldAt hu hf Ae h0 w)) ?_
  grind [aY,Nat.add_assoc]
 ·cases hs
theorem oK{k:Nat}(h:iF n d=some k):∃kd i,d = .int kd i∧0≤i∧i<n∧k=i.toNat:=by
 cases d<;>simp only[iF,reduceCtorEq]at h
 rename_i kd i;split at h
 ·rename_i hi;cases h;exact⟨kd,i,rfl,hi.1,hi.2,rfl⟩
 ·cases h
theorem op_iaA(h:Rel E M0 w0 N μ a w x)(hu:E.P.underlying t=some (.array n e))(Ae:iN E.P e=some sz) 
  {o p:Operand} {ar pr:Arg} (h2:dI o=some ar) (h3:dI p=some pr) {d:D} {x':AS}
  (hs:step E.G (.iaA n sz ar pr) x=some (d,x')):gd E M0 w0 N μ w x a d x' w (do pure (.value (←Instr.indexAt t (a.eval o) (a.eval p)))):=by
 have hv:=cW h h2;have hi:=cW h h3;simp only[stq,aC,aB]at hs;obtain⟨k,hk,hs⟩:=hs;obtain⟨kd,i,he,Da,Cy,rfl⟩:=oK hk;rw[he]at hi;simp only[aY]at hi;split at hs
 ·rename_i nm off he;rw[he]at hv;simp only[aY]at hv;obtain⟨l,b,h4,h5,h6⟩:=hv;cases hs;refine iD.of (v:=.pointer (some ⟨b,off+i.toNat*sz,none⟩)) h (bU ?_) ?_
  ·simp[Instr.indexAt,hi,h6,asIntOf,bL hu,Instr.sureAddr,Da,Cy,eB Ae,Addr.add_lit]
  grind [aY]
 ·rename_i cs off he;rw[he]at hv;simp only[aY]at hv;obtain⟨b,q,h6,h4,h5,h7⟩:=hv;cases hs;refine iD.of (v:=.pointer (some ⟨b,q+off+i.toNat*sz,none⟩)) h (bU ?_) ?_
  ·simp[Instr.indexAt,hi,h6,asIntOf,bL hu,Instr.sureAddr,Da,Cy,eB Ae,Addr.add_lit]
  grind [aY,Nat.add_assoc]
 ·cases hs
theorem pY(hu:P.underlying t=some (.slice e))(Ae:iN P e=some sz){b off len cap:Nat}{kd:IntKind}{i:Int} 
  (Da:0≤i) (Cy:i<len) (w:World):(Instr.indexAt t (.slice (some ⟨b,off,none⟩) len cap) (.int kd i)).run P w = .ok (.pointer (some ⟨b,off+i.toNat*sz,none⟩)) w:=by
 simp[Instr.indexAt,asIntOf,bL hu,Da,Cy,eB Ae,Addr.add_lit]
theorem op_iaS(h:Rel E M0 w0 N μ a w x)(hu:E.P.underlying t=some (.slice e))(Ae:iN E.P e=some sz) 
  {o p:Operand} {ar pr:Arg} (h2:dI o=some ar) (h3:dI p=some pr) {d:D} {x':AS}
  (hs:step E.G (.iaS sz ar pr) x=some (d,x')):gd E M0 w0 N μ w x a d x' w (do pure (.value (←Instr.indexAt t (a.eval o) (a.eval p)))):=by
 have hv:=cW h h2;have hi:=cW h h3;simp only[stq]at hs;split at hs
 ·rename_i ex len cs he;rw[he]at hv;simp only[aC,aB]at hs;obtain⟨k,hk,hs⟩:=hs;obtain⟨kd,i,Ci,Da,Cy,rfl⟩:=oK hk;rw[Ci]at hi;simp only[aY]at hi hv;obtain⟨ad,cap,h4,h5,h6,h7⟩:=hv;cases hs;rcases h7 with h7|⟨b,q,rfl,h8,h9,Kz⟩
  ·omega
  refine iD.of h (bU (by rw[h4,hi];exact pY hu Ae Da Cy w)) ?_
  grind [aY]
 ·rename_i nm off z len cap he;rw[he]at hv;simp only[aC,aB]at hs;obtain⟨k,hk,hs⟩:=hs;obtain⟨kd,i,Ci,Da,Cy,rfl⟩:=oK hk;rw[Ci]at hi;simp only[aY]at hi hv;obtain⟨l,b,h4,h5,h6,h7⟩:=hv;cases hz:Nat.beq z sz<;>rw[hz]at hs<;>cases hs
  refine iD.of h (bU (by rw[h6,hi];exact pY hu Ae Da Cy w)) ?_
  grind [aY]
 ·rename_i nm off z len he;rw[he]at hv;simp only[aC,aB]at hs;obtain⟨k,hk,hs⟩:=hs;obtain⟨kd,i,Ci,Da,Cy,rfl⟩:=oK hk;rw[Ci]at hi;simp only[aY]at hi hv;obtain⟨l,cap,h4,h6,h7,h8,h9⟩:=hv;cases hz:Nat.beq z sz<;>rw[hz]at hs<;>cases hs
  cases hb:l.blk with
  | none=>grind
  | some b=>
   rw[hb]at h6;refine iD.of h (bU (by rw[h6,hi];exact pY hu Ae Da Cy w)) ?_
   grind [aY]
 ·cases hs
theorem qJ{cs:List D}{vs:Array Value}(hr:bI (Mm M0 μ) w μ cs vs.toList){off:Nat}{bb:Bool}(h1:wD P t=some bb)(h2:iN P t=some n) 
  (ht:cX cs off (bif bb then some n else none)=some d):∃v,(part t vs off).run P w = .ok v w∧aY (Mm M0 μ) w μ d v:=by
 simp only[part,bJ,run_isAgg h1,aR];cases bb with
 | false=>
  simp only[cO,cX]at ht;obtain⟨v,hv,hd⟩:=bI.get off d hr ht
  simp_all
 | true=>
  simp only[bG,cX]at ht;cases Ac:Nat.ble (off+n) cs.length with
  | false=>grind
  | true=>
   rw[Ac]at ht;simp at ht;subst ht;refine⟨.agg (vs.extract off (off+n)),by simp[eB h2],?_⟩
   simp only[aY];refine⟨_,rfl,?_⟩;have:(vs.extract off (off+n)).toList=(vs.toList.drop off).take n:=by
    rw[Array.toList_extract,List.extract_eq_take_drop];congr 1;omega
   rw[this];exact(hr.drop off).take n
theorem op_ixA(h:Rel E M0 w0 N μ a w x){bb:Bool}(hu:E.P.underlying t=some (.array n e))(Ae:iN E.P e=some sz)(Lf:wD E.P e=some bb) 
  {o p:Operand} {ar pr:Arg} (h2:dI o=some ar) (h3:dI p=some pr) {d:D} {x':AS}
  (hs:step E.G (.ixA n sz bb ar pr) x=some (d,x')):gd E M0 w0 N μ w x a d x' w (do pure (.value (←Instr.index t (a.eval o) (a.eval p)))):=by
 have hv:=cW h h2;have hi:=cW h h3;simp only[stq]at hs;split at hs
 ·rename_i cs he;rw[he]at hv;simp only[aC,aB]at hs;obtain⟨k,hk,d',hd,hs⟩:=hs;obtain⟨kd,i,Ci,Da,Cy,rfl⟩:=oK hk;rw[Ci]at hi;simp only[aY]at hi hv;obtain⟨vs,h4,h5⟩:=hv;cases hs;obtain⟨v,zV,hr⟩:=qJ (P:=E.P) h5 Lf Ae hd
  simp_all [iD.of,bU,Instr.index,asIntOf,bL,eB]
 ·cases hs
theorem op_ixS(h:Rel E M0 w0 N μ a w x)(hu:E.P.underlying t=some .string) 
  {o p:Operand} {ar pr:Arg} (h2:dI o=some ar) (h3:dI p=some pr) {d:D} {x':AS}
  (hs:step E.G (.ixS ar pr) x=some (d,x')):gd E M0 w0 N μ w x a d x' w (do pure (.value (←Instr.index t (a.eval o) (a.eval p)))):=by
 have hv:=cW h h2;have hi:=cW h h3;simp only[stq]at hs;split at hs
 ·rename_i s he;rw[he]at hv;simp only[aC,aB]at hs;obtain⟨k,hk,b,hb,hs⟩:=hs;obtain⟨kd,i,Ci,Da,Cy,rfl⟩:=oK hk;rw[Ci]at hi;simp only[aY]at hi hv;cases hs;have Ad:(⟨s.toArray⟩:ByteArray)[i.toNat]?=some b:=by
   rw[dE]at hb;obtain⟨zQ,hb⟩:=hb;have Ae:i.toNat<(⟨s.toArray⟩:ByteArray).size:=by simpa[ByteArray.size]using zQ
   rw[getElem?_pos (⟨s.toArray⟩:ByteArray) i.toNat Ae];simp only[aD];subst hb;simp[ByteArray.getElem_eq_getElem_data]
  refine iD.of (v:=.int .u8 b.toNat) h (bU ?_) (by simp only[aY])
  simp_all [Instr.index,asIntOf,bL]
 ·cases hs
theorem op_fld(h:Rel E M0 w0 N μ a w x){f:Field}{sz:Option Nat}(hu:E.P.underlying t=some (.struct fs))(hf:fs[i]?=some f) 
  (Ae:cSz E.P f.type=some sz) {o:Operand} {ar:Arg} (h2:dI o=some ar) {d:D} {x':AS}
  (hs:step E.G (.fld f.offset sz ar) x=some (d,x')):gd E M0 w0 N μ w x a d x' w (do pure (.value (←Instr.field t (a.eval o) i))):=by
 simp only[step_fld,qX]at hs;cases hs
theorem op_ext(h:Rel E M0 w0 N μ a w x)(h2:dI o=some ar) 
  (hs:step E.G (.ext i ar) x=some (d,x')):gd E M0 w0 N μ w x a d x' w (do pure (.value (←Instr.extract (a.eval o) i))):=by
 have hv:=cW h h2;simp only[stq]at hs;split at hs
 ·rename_i cs he;rw[he]at hv;simp only[aC,aB]at hs;obtain⟨d',hd,hs⟩:=hs;simp only[aY]at hv;obtain⟨vs,h4,h5⟩:=hv;cases hs;obtain⟨v,Cu,hr⟩:=bI.get i _ h5 hd
  simp_all [iD.of,bU,Instr.extract]
 ·cases hs
theorem op_mkif(h:Rel E M0 w0 N μ a w x){ds:TypeDesc}(hu:E.P.underlying t=some ds)(hn:∀ms,ds≠.interface ms)(h2:dI o=some ar) 
  (hs:step E.G (.mkif t ar) x=some (d,x')):gd E M0 w0 N μ w x a d x' w (do pure (.value (←Instr.makeInterface t (a.eval o)))):=by
 have hv:=cW h h2;simp only[stq]at hs;cases hs;refine iD.of (v:=.iface t (a.eval o)) h (bU ?_) (by grind [aY])
 simp_all [Instr.makeInterface,bJ,bL,aR,absurd]
theorem op_mkfn(h:Rel E M0 w0 N μ a w x){f:Fn}{p q:Array Operand}{p' q':List Arg}(h2:mG p=some p')(h3:mG q=some q') 
  (hs:step E.G (.mkfn f p' q') x=some (d,x')):gd E M0 w0 N μ w x a d x' w (do pure (.value (←Instr.makeFunc f (p.map a.eval) (q.map a.eval)))):=by
 simp only[stq]at hs;cases hs;refine iD.of (v:=.func f (p.map a.eval) (q.map a.eval)) h (bU rfl) ?_;simp only[aY];refine⟨_,_,rfl,?_,?_⟩
 ·simpa using yY h h2
 ·simpa using yY h h3
theorem op_nilc(h:Rel E M0 w0 N μ a w x){oo:Oper}(ho:oo.op = .nilCheck o)(h2:dI o=some ar) 
  (hs:step E.G (.nilc ar) x=some (d,x')):gd E M0 w0 N μ w x a d x' w (execOp a.eval oo):=by
 have hv:=cW h h2;simp only[stq]at hs;have key:∀v,a.eval o=v→aY (Mm M0 μ) w μ d v→x'=x→(v≠.pointer none∧v≠.nilIface∧v≠.nilFunc∧∀n f c,v≠.func (.method n) f c)→gd E M0 w0 N μ w x a d x' w (execOp a.eval oo):=by
  intro v he hd hx hn;subst hx;refine iD.of (v:=v) h ?_ hd;simp only[execOp,ho];rw[he];obtain⟨n1,n2,n3,n4⟩:=hn;split
  ·grind
  ·grind
  ·grind
  ·grind
  ·simp
 grind [aY]
theorem fitsD_iff(k:IntKind)(n:Int):fitsD k n=true↔-(loK k:Int)≤n∧n≤(hiK k:Int):=by
 cases n with
 | ofNat m=>grind [fitsD,Nat.ble_eq,Int.ofNat_eq_natCast]
 | negSucc m=>grind [fitsD,Nat.ble_eq]
theorem kX(k:IntKind)(n:Int):bX k n=k.wrap n:=by
 unfold bX;cases h:fitsD k n with
 | false=>rfl
 | true=>
  rw[fitsD_iff]at h;cases k<;>simp only[loK,hiK]at h<;>simp only[bG,IntKind.wrap,IntKind.bits,IntKind.signed]<;>simp<;>first|omega|(split<;>omega)
theorem kW{n:Int}(h1 : -(loK k:Int)≤n)(h2:n≤(hiK k:Int)):bX k n=n:=by
 grind [bX,fitsD_iff]
theorem uL{p q:Int}(hs:yX op k p q=some d)(P:Program)(w:World):∃n,d = .int k n∧(Op.intBits op k p q).run P w = .ok (.int k n) w:=by
 cases op<;>simp only[yX,aD,reduceCtorEq]at hs<;>subst hs<;>exact⟨_,rfl,by simp[Op.intBits]⟩
theorem int_rel{p q:Int}(hs:intD op k p q=some d)(hsh:op≠.shl)(hsr:op≠.shr)(P:Program)(t:TypeId)(w:World):
  ∃v,aY (Mm M0 μ) w μ d v∧(binOp op t (.int k p) (.int k q)).run P w = .ok v w:=by
 cases op
 case shl=>grind
 case shr=>grind
 case quo=>
  simp only[intD]at hs;split at hs
  ·cases hs
  ·rename_i h0;cases hs
   simp_all [aY,binOp,Op.intDiv,kX]
 case rem=>
  simp only[intD]at hs;split at hs
  ·cases hs
  ·rename_i h0;cases hs
   simp_all [aY,binOp,Op.intDiv,kX]
 case and=>obtain⟨n,rfl,h⟩:=uL (by simpa only[intD]using hs) P w;grind [aY,binOp]
 case or=>obtain⟨n,rfl,h⟩:=uL (by simpa only[intD]using hs) P w;grind [aY,binOp]
 case xor=>obtain⟨n,rfl,h⟩:=uL (by simpa only[intD]using hs) P w;grind [aY,binOp]
 case andNot=>obtain⟨n,rfl,h⟩:=uL (by simpa only[intD]using hs) P w;grind [aY,binOp]
 all_goals
  simp only[intD,aD]at hs;subst hs;exact⟨_,by simp only[aY];rfl,by simp[binOp,Op.intArith,Op.intCmp,kX]⟩
theorem sh_rel{j:IntKind}{p q:Int}(hs:shD op k p q=some d)(P:Program)(t:TypeId)(w:World):
  ∃v,aY (Mm M0 μ) w μ d v∧(Op.shift op k p j q).run P w = .ok v w:=by
 simp only[shD]at hs;split at hs
 ·cases hs
 ·rename_i h0;cases op<;>simp only[aD,reduceCtorEq]at hs<;>subst hs
  ·exact⟨_,by simp only[aY];rfl,by simp[Op.shift,h0,kX]⟩
  ·exact⟨_,by simp only[aY];rfl,by simp[Op.shift,h0]⟩
theorem toList_mk(s:List UInt8):(⟨s.toArray⟩:ByteArray).toList=s:=by simp
theorem strD_rel{p q:List UInt8}(hs:strD op p q=some d)(P:Program)(t:TypeId)(w:World):
  ∃v,aY (Mm M0 μ) w μ d v∧(binOp op t (.string ⟨p.toArray⟩) (.string ⟨q.toArray⟩)).run P w = .ok v w:=by
 have e:∀Ut,(binOp Ut t (.string ⟨p.toArray⟩) (.string ⟨q.toArray⟩))=Op.stringOp Ut ⟨p.toArray⟩ ⟨q.toArray⟩:=by intro Ut;cases Ut<;>rfl
 rw[e];cases op<;>simp only[strD,aD,reduceCtorEq]at hs
 case add=>
  cases Ac:Nat.ble (p.length+q.length) 9223372036854775807 with
  | false=>grind
  | true=>
   rw[Ac]at hs;simp at hs;subst hs;have Dm:=cU Ac;refine⟨.string (⟨p.toArray⟩++⟨q.toArray⟩),?_,?_⟩
   ·simp only[aY,Value.string.injEq];apply ByteArray.ext;simp
   ·have Dl:¬(((⟨p.toArray⟩:ByteArray).size+(⟨q.toArray⟩:ByteArray).size:Nat):Int)>IntKind.i64.max:=by
     simp only[IntKind.max_i64,ByteArray.size];simp;omega
    simp_all [Op.stringOp]
 all_goals
  subst hs;exact⟨_,by simp only[aY];rfl,by simp[Op.stringOp,toList_mk]⟩
end
section
variable {E:Env} {M0:Nat→Prop} {w0:World} {N:Nat} {μ:Mu} {M:Nat→Prop} {a:Act} {w:World} {x:AS}
variable {P:Program}
theorem beq_mk(p q:List UInt8):(p==q)=((⟨p.toArray⟩:ByteArray).toList==(⟨q.toArray⟩:ByteArray).toList):=by simp_all
theorem xQ(d:Nat)(t e:TypeId)(len n:Nat)(xs ys:Array Value)(hu:P.underlying t=some (.array len e))(hs:iN P e=some n)(K:List Nat→Sem Bool) 
  (Yv:K []=pure true) (hK:∀i r,K (i::r)=(do
   let p ←part e xs (i*n)
   let q ←part e ys (i*n)
   let b ←Op.equalIn d e p q
   if(!b)=true then pure false else K r)) (w:World) :
  (Op.equalIn (d+1) t (.agg xs) (.agg ys)).run P w=(K (List.range len)).run P w:=by
 simp only[Op.equalIn,bJ,bL hu,aR,eB hs];simp only[Std.Legacy.Range.forIn_eq_forIn_range',Std.Legacy.Range.size];rw[List.range_eq_range'];simp only[Nat.sub_zero,Nat.add_sub_cancel,Nat.div_one];generalize List.range' 0 len=l
 induction l generalizing w with
 | nil=>simp[Yv]
 | cons i r ih=>
  simp only[List.forIn_cons,hK,bJ,Sem.run_ite];generalize (part e xs (i*n)).run P w=r1;cases r1 with
  | ok p w1=>
   simp only[aR];generalize (part e ys (i*n)).run P w1=r2;cases r2 with
   | ok q w2=>
    simp only[aR];generalize (Op.equalIn d e p q).run P w2=r3;cases r3 with
    | ok b w3=>
     simp_all
    | halt y w3=>simp_all
   | halt y w2=>simp_all
  | halt y w1=>simp_all
theorem eq_fields{P:Program}{n:Nat} (ih:∀(t:TypeId) (e:ET) (d1 d2:D) (r:Bool) (v1 v2:Value),eT P n t=some e→eqT e d1 d2=some r→aY (Mm M0 μ) w μ d1 v1→aY (Mm M0 μ) w μ d2 v2 →
   ∀k,n≤k→(Op.equalIn k t v1 v2).run P w = .ok r w) {k:Nat} (hk:n≤k) {cs ds:List D} {vs us:Array Value} (h1:bI (Mm M0 μ) w μ cs vs.toList) (h2:bI (Mm M0 μ) w μ ds us.toList) :
  ∀(fs:List Field) (l:List (Nat×Option Nat×ET)) (r:Bool),
   List.mapM (fun(f:Field)=>do
    let s ←cSz P f.type
    let e ←eT P n f.type
    some (f.offset,s,e)) (fs.filter (fun f=>f.name != "_"))=some l→uC l cs ds=some r→(Op.eqFields k vs us fs).run P w = .ok r w
 | [],l,r,hl,hr=>by
  simp_all [uC,Op.eqFields]
 | f::fs,l,r,hl,hr=>by
  simp only[Op.eqFields];by_cases hf:f.name = "_"
  ·rw[List.filter_cons_of_neg (by simp[hf])]at hl
   simp only[hf,dJ,aM,iV];exact eq_fields ih hk h1 h2 fs l r hl hr
  ·rw[List.filter_cons_of_pos (by simpa using hf)]at hl
   simp only[dJ,hf,aN,if_true];simp only[List.mapM_cons,aC,aB,Option.pure_def,aD]at hl;obtain⟨p,⟨s,hs,e,he,rfl⟩,l',Dx,rfl⟩:=hl;simp only[uC]at hr;obtain⟨i,bb,h3,h4,rfl⟩:=yU hs;have Ae:iN P f.type=some i.size:=by simp[iN,h3]
   split at hr
   ·rename_i d1 d2 Fx Fb;obtain⟨v1,Ds,Ge⟩:=qJ (P:=P) h1 h4 Ae Fx;obtain⟨v2,hv2,Cb⟩:=qJ (P:=P) h2 h4 Ae Fb;split at hr
    ·rename_i b hb;have Kh:=ih f.type e d1 d2 b v1 v2 he hb Ge Cb k hk;simp only[bJ,Ds,hv2,Kh,aR];cases b with
     | false=>simp_all
     | true=>
      simp at hr;simpa using eq_fields ih hk h1 h2 fs l' r Dx hr
    ·cases hr
   ·cases hr
theorem eqT_rel{P:Program}:∀(n:Nat) (t:TypeId) (e:ET) (d1 d2:D) (r:Bool) (v1 v2:Value),eT P n t=some e→eqT e d1 d2=some r→aY (Mm M0 μ) w μ d1 v1→aY (Mm M0 μ) w μ d2 v2 →
   ∀k,n≤k→(Op.equalIn k t v1 v2).run P w = .ok r w
 | 0,t,e,d1,d2,r,v1,v2,he,hr,h1,h2,k,hk=>by simp[eT]at he
 | n+1,t,e,d1,d2,r,v1,v2,he,hr,h1,h2,k,hk=>by
  obtain⟨k,rfl⟩:∃m,k=m+1:=⟨k-1,by omega⟩
  simp only[eT]at he;split at he
  ·rename_i hu;cases he;cases d1<;>cases d2<;>simp only[eqT,reduceCtorEq]at hr
   grind [aY,run_equalIn_bool']
  ·rename_i kd hu;cases he;cases d1<;>cases d2<;>simp only[eqT,reduceCtorEq]at hr
   grind [aY,run_equalIn_int]
  ·rename_i hu;cases he;cases d1<;>cases d2<;>simp only[eqT,reduceCtorEq]at hr
   grind [aY,beq_mk,run_equalIn_string]
  ·rename_i fs hu;cases hp:P.stoodInHeld t with
   | true=>grind
   | false=>
    rw[hp]at he;simp only[cO,aT]at he;obtain⟨l,hl,rfl⟩:=he;cases d1<;>cases d2<;>simp only[eqT,reduceCtorEq]at hr
    simp only[aY]at h1 h2;obtain⟨vs,rfl,h1⟩:=h1;obtain⟨us,rfl,h2⟩:=h2;have Gr:P.fieldsOf t=fs:=by simp[Program.fieldsOf,hu]
    rw[run_equalIn_struct w k t vs us (by grind) hp,Gr]
    exact eq_fields (fun t e d1 d2 r v1 v2 a b c d k hk=>eqT_rel n t e d1 d2 r v1 v2 a b c d k hk) (by omega) h1 h2 _ l r hl hr
  ·rename_i len el hu;simp only[aC,aB,aD]at he;obtain⟨s,hs,sz,Ae,e',Ci,rfl⟩:=he;cases d1<;>cases d2<;>simp only[eqT,reduceCtorEq]at hr
   simp only[aY]at h1 h2;obtain⟨vs,rfl,h1⟩:=h1;obtain⟨us,rfl,h2⟩:=h2
   let K:List Nat→Sem Bool:=fun l=>l.foldr (fun i r=>do
    let p ←part el vs (i*sz)
    let q ←part el us (i*sz)
    let b ←Op.equalIn k el p q
    if(!b)=true then pure false else r) (pure true)
   rw[xQ k t el len sz vs us hu Ae K rfl (fun _ _=>rfl)]
   obtain⟨ii,bb,h3,h4,rfl⟩:=yU hs;generalize List.range len=L at hr
   induction L generalizing r with
   | nil=>simp[uC]at hr;subst hr;rfl
   | cons i L ihL=>
    simp only[bS,uC]at hr;have Kl:iN P el=some ii.size:=by simp[iN,h3]
    split at hr
    ·rename_i d1 d2 Fx Fb;obtain⟨v1,Ds,Ge⟩:=qJ (P:=P) h1 h4 Kl Fx;obtain⟨v2,hv2,Cb⟩:=qJ (P:=P) h2 h4 Kl Fb;split at hr
     ·rename_i b hb;have Kh:=eqT_rel n el e' d1 d2 b v1 v2 Ci hb Ge Cb k (by omega)
      show(do
       let p ←part el vs (i*sz)
       let q ←part el us (i*sz)
       let b ←Op.equalIn k el p q
       if(!b)=true then pure false else K L).run P w=_
      simp only[bJ,Ds,hv2,Kh,aR];cases b with
      | false=>simp_all
      | true=>
       grind
     ·cases hr
    ·cases hr
  ·cases he
theorem op_bin(h:Rel E M0 w0 N μ a w x){op:BinOp}{t:TypeId}{o p:Operand}{ar pr:Arg}(h2:dI o=some ar)(h3:dI p=some pr){d:D}{x':AS} 
  (hs:step E.G (.bin op ar pr) x=some (d,x')):gd E M0 w0 N μ w x a d x' w (do pure (.value (← (do eqGuard op t o p (a.eval o) (a.eval p);binOp op t (a.eval o) (a.eval p):Sem Value)))):=by
 have hv:=cW h h2;have hi:=cW h h3;simp only[stq,aT]at hs;obtain⟨d',hs,he⟩:=hs;cases he;simp only[kN]at hs;split at hs
 ·rename_i k p' j q' Ms Ip;rw[Ms]at hv;rw[Ip]at hi;simp only[aY]at hv hi;split at hs
  ·obtain⟨v,hr,zV⟩:=sh_rel (j:=j) (t:=t) hs E.P w;exact iD.of h (bU (by grind [eqGuard_at_int,binOp])) hr
  ·obtain⟨v,hr,zV⟩:=sh_rel (j:=j) (t:=t) hs E.P w;exact iD.of h (bU (by grind [eqGuard_at_int,binOp])) hr
  ·rename_i Ey Eh;split at hs
   ·rename_i Vw;subst Vw;obtain⟨v,hr,zV⟩:=int_rel (M0:=M0) (μ:=μ) hs (fun e=>Ey e) (fun e=>Eh e) E.P t w
    simp_all [iD.of,bU,eqGuard_at_int]
   ·cases hs
 ·rename_i p' q' Ms Ip;rw[Ms]at hv;rw[Ip]at hi;simp only[aY]at hv hi;obtain⟨v,hr,zV⟩:=strD_rel (M0:=M0) (μ:=μ) hs E.P t w
  simp_all [iD.of,bU,eqGuard_at_string]
 ·cases hs
theorem binOp_eqneq(t:TypeId)(v u:Value)(r:Bool)(neg:Bool)(w:World)(hn:(∀k n,v≠.int k n)∧(∀s,v≠.string s)∧(∀k n,v≠.float k n)∧(∀k n m,v≠.complex k n m)) 
  (h:(Op.equal t v u).run P w = .ok r w):(binOp (bif neg then .neq else .eql) t v u).run P w = .ok (.bool (bif neg then !r else r)) w:=by
 obtain⟨n1,n2,n3,n4⟩:=hn;cases neg<;>cases v<;>first
  | exact absurd rfl (n1 _ _)
  | exact absurd rfl (n2 _)
  | exact absurd rfl (n3 _ _)
  | exact absurd rfl (n4 _ _ _)
  | simp[binOp,h]
theorem eT_struct{n:Nat}{t:TypeId}{fs:Array Field}{e:ET}(hu:P.underlying t=some (.struct fs))(he:eT P (n+1) t=some e):∃l,e = .parts l:=by
 grind [eT,aT]
theorem eT_array{n:Nat}{t len el:Nat}{e:ET}(hu:P.underlying t=some (.array len el))(he:eT P (n+1) t=some e):∃l,e = .parts l:=by
 simp only[eT,hu,aC,aB,aD]at he
 grind
section eqs
variable {P:Program} (d:Nat) {t:TypeId} (w:World)
variable {e:TypeId} {p q:Array TypeId}
theorem rR(hu:P.underlying t=some (.slice e))(b:Option Addr)(n c k l:Nat):(Op.equalIn (d+1) t (.slice none k l) (.slice b n c)).run P w = .ok b.isNone w:=by
 simp[Op.equalIn,bL hu]
theorem wH(hu:P.underlying t=some (.slice e))(b:Addr)(n c k l:Nat):(Op.equalIn (d+1) t (.slice (some b) n c) (.slice none k l)).run P w = .ok false w:=by
 simp[Op.equalIn,bL hu]
theorem eqn_ptr1(hu:P.underlying t=some (.pointer e))(b:Option Addr):(Op.equalIn (d+1) t (.pointer none) (.pointer b)).run P w = .ok b.isNone w:=by
 simp[Op.equalIn,bL hu]
theorem eqn_ptr2(hu:P.underlying t=some (.pointer e))(b:Addr):(Op.equalIn (d+1) t (.pointer (some b)) (.pointer none)).run P w = .ok false w:=by
 simp[Op.equalIn,bL hu]
theorem eqn_ifc0{ms:Array (String×TypeId)}(hu:P.underlying t=some (.interface ms)):(Op.equalIn (d+1) t .nilIface .nilIface).run P w = .ok true w:=by
 simp[Op.equalIn,bL hu]
theorem eqn_ifc1{ms:Array (String×TypeId)}(hu:P.underlying t=some (.interface ms))(k:TypeId)(v:Value):(Op.equalIn (d+1) t .nilIface (.iface k v)).run P w = .ok false w:=by
 simp[Op.equalIn,bL hu]
theorem eqn_ifc2{ms:Array (String×TypeId)}(hu:P.underlying t=some (.interface ms))(k:TypeId)(v:Value):(Op.equalIn (d+1) t (.iface k v) .nilIface).run P w = .ok false w:=by
 simp[Op.equalIn,bL hu]
theorem eqn_fn0{b:Bool}(hu:P.underlying t=some (.func p q b)):(Op.equalIn (d+1) t .nilFunc .nilFunc).run P w = .ok true w:=by
 simp[Op.equalIn,bL hu]
theorem eqn_fn1{b:Bool}(hu:P.underlying t=some (.func p q b))(f:Fn)(k l:Array Value):(Op.equalIn (d+1) t .nilFunc (.func f k l)).run P w = .ok false w:=by
 simp[Op.equalIn,bL hu]
theorem eqn_fn2{b:Bool}(hu:P.underlying t=some (.func p q b))(f:Fn)(k l:Array Value):(Op.equalIn (d+1) t (.func f k l) .nilFunc).run P w = .ok false w:=by
 simp[Op.equalIn,bL hu]
end eqs
theorem cmp_run{P:Program}{neg:Bool}{t:TypeId}{o p:Operand}{k:EK}(hk:cmpK P t o p=some k){d1 d2:D}{r:Bool}(hs:oW k d1 d2=some r){v u:Value}(hv:aY (Mm M0 μ) w μ d1 v)(hi:aY (Mm M0 μ) w μ d2 u):
  (do eqGuard (bif neg then .neq else .eql) t o p v u;binOp (bif neg then .neq else .eql) t v u:Sem Value).run P w = .ok (.bool (bif neg then !r else r)) w:=by
 have Bm:(eqGuard (bif neg then .neq else .eql) t o p v u).run P w = .ok () w→((∀k n,v≠.int k n)∧(∀s,v≠.string s)∧(∀k n,v≠.float k n)∧(∀k n m,v≠.complex k n m)) →
   (Op.equal t v u).run P w = .ok r w →
   (do eqGuard (bif neg then .neq else .eql) t o p v u;binOp (bif neg then .neq else .eql) t v u:Sem Value).run P w = .ok (.bool (bif neg then !r else r)) w:=by
  intro hg hn he;simp only[bJ,hg,aR];exact binOp_eqneq t _ _ r neg w hn he
 have agg:P.eqGuardType P.depth t=false→∀e,eT P 20 t=some e→(∃l,e = .parts l)→eqT e d1 d2=some r →
   (do eqGuard (bif neg then .neq else .eql) t o p v u;binOp (bif neg then .neq else .eql) t v u:Sem Value).run P w = .ok (.bool (bif neg then !r else r)) w:=by
  intro hg e he hl hs;obtain⟨l,rfl⟩:=hl;have Kh:=eqT_rel 20 t _ _ _ r _ _ he hs hv hi 10000 (by omega)
  cases d1<;>cases d2<;>simp only[eqT,reduceCtorEq]at hs
  simp only[aY]at hv hi;obtain⟨vs,rfl,_⟩:=hv;obtain⟨us,rfl,_⟩:=hi;exact Bm (run_eqGuard_agg w _ t o p vs us hg) (by simp) Kh
 simp only[cmpK]at hk;split at hk
 ·rename_i hu;cases hk;simp only[oW]at hs;cases d1<;>cases d2<;>simp only[eqT,reduceCtorEq]at hs
  simp at hs;subst hs;simp only[aY]at hv hi;subst hv;subst hi;exact Bm (by simp[eqGuard_at_bool]) (by simp) (run_equalIn_bool' w 9999 t _ _ hu)
 ·rename_i hu;cases hg:P.eqGuardType P.depth t<;>rw[hg]at hk
  ·simp only[cO,aT]at hk;obtain⟨e,he,rfl⟩:=hk;exact agg hg e he (eT_struct hu he) hs
  ·cases hk
 ·rename_i hu;cases hg:P.eqGuardType P.depth t<;>rw[hg]at hk
  ·simp only[cO,aT]at hk;obtain⟨e,he,rfl⟩:=hk;exact agg hg e he (eT_array hu he) hs
  ·cases hk
 ·rename_i e hu;cases hk;cases d1<;>cases d2<;>simp only[oW,reduceCtorEq]at hs
  ·cases hs;simp only[aY]at hv hi;subst hv;subst hi;exact Bm (by simp[eqGuard_at_slice]) (by simp) (rR 9999 w hu _ _ _ _ _)
  ·rename_i ex len cs;cases len<;>simp only[oW,reduceCtorEq]at hs
   cases hs;simp only[aY]at hv hi;subst hv;obtain⟨ad,cap,rfl,_,_,h3⟩:=hi;rcases h3 with h3|⟨b,q,rfl,_⟩
   ·omega
   exact Bm (by simp[eqGuard_at_slice]) (by simp) (rR 9999 w hu _ _ _ _ _)
  ·cases hs;simp only[aY]at hv hi;subst hv;obtain⟨l,b,_,_,rfl,_⟩:=hi;exact Bm (by simp[eqGuard_at_slice]) (by simp) (rR 9999 w hu _ _ _ _ _)
  ·rename_i nm off sz len;cases len<;>simp only[oW,reduceCtorEq]at hs
   cases hs;simp only[aY]at hv hi;subst hv;obtain⟨⟨lb,lc⟩,cap,_,rfl,h3,_,h4⟩:=hi;cases lb with
   | none=>grind
   | some b=>exact Bm (by simp[eqGuard_at_slice]) (by simp) (rR 9999 w hu _ _ _ _ _)
  ·rename_i ex len cs;cases len<;>simp only[oW,reduceCtorEq]at hs
   cases hs;simp only[aY]at hv hi;subst hi;obtain⟨ad,cap,rfl,_,_,h3⟩:=hv;rcases h3 with h3|⟨b,q,rfl,_⟩
   ·omega
   exact Bm (by simp[eqGuard_at_slice]) (by simp) (wH 9999 w hu _ _ _ _ _)
  ·cases hs;simp only[aY]at hv hi;subst hi;obtain⟨l,b,_,_,rfl,_⟩:=hv;exact Bm (by simp[eqGuard_at_slice]) (by simp) (wH 9999 w hu _ _ _ _ _)
  ·rename_i nm off sz len;cases len<;>simp only[oW,reduceCtorEq]at hs
   cases hs;simp only[aY]at hv hi;subst hi;obtain⟨⟨lb,lc⟩,cap,_,rfl,h3,_,h4⟩:=hv;cases lb with
   | none=>grind
   | some b=>exact Bm (by simp[eqGuard_at_slice]) (by simp) (wH 9999 w hu _ _ _ _ _)
 ·rename_i e hu;cases hk;cases d1<;>cases d2<;>simp only[oW,reduceCtorEq]at hs
  all_goals cases hs
  all_goals simp only[aY]at hv hi
  ·obtain⟨l,b,_,_,rfl⟩:=hv;subst hi;exact Bm (by simp[eqGuard_at_pointer]) (by simp) (eqn_ptr2 9999 w hu _)
  ·obtain⟨b,q,rfl,_⟩:=hv;subst hi;exact Bm (by simp[eqGuard_at_pointer]) (by simp) (eqn_ptr2 9999 w hu _)
  ·obtain⟨l,b,_,_,rfl⟩:=hi;subst hv;exact Bm (by simp[eqGuard_at_pointer]) (by simp) (eqn_ptr1 9999 w hu _)
  ·obtain⟨b,q,rfl,_⟩:=hi;subst hv;exact Bm (by simp[eqGuard_at_pointer]) (by simp) (eqn_ptr1 9999 w hu _)
  ·subst hv;subst hi;exact Bm (by simp[eqGuard_at_pointer]) (by simp) (eqn_ptr1 9999 w hu _)
 ·rename_i ms hu;cases hk;cases d1<;>cases d2<;>simp only[oW,reduceCtorEq]at hs
  ·cases hs;simp only[aY]at hv hi;obtain⟨y,rfl,_⟩:=hv;subst hi;exact Bm (by simp[eqGuard_at_iface]) (by simp) (eqn_ifc2 9999 w hu _ _)
  ·cases hs;simp only[aY]at hv hi;obtain⟨y,rfl,_⟩:=hi;subst hv;exact Bm (by simp[eqGuard_nil_iface]) (by simp) (eqn_ifc1 9999 w hu _ _)
  ·cases hc:(tU o||tU p)<;>rw[hc]at hs
   ·cases hs
   ·simp at hs;subst hs;simp only[aY]at hv hi;subst hv;subst hi;refine Bm ?_ (by simp) (eqn_ifc0 9999 w hu)
    cases o<;>cases p<;>simp[tU]at hc<;>first
     | simp[eqGuard_nil_constR]
     | simp[eqGuard_nil_constL]
 ·rename_i hu;cases hk;cases d1<;>cases d2<;>simp only[oW,reduceCtorEq]at hs
  all_goals cases hs
  all_goals simp only[aY]at hv hi
  ·obtain⟨va,vb,rfl,_⟩:=hv;subst hi;exact Bm (by simp[eqGuard_at_func]) (by simp) (eqn_fn2 9999 w hu _ _ _)
  ·obtain⟨va,vb,rfl,_⟩:=hi;subst hv;exact Bm (by simp[eqGuard_at_nilFunc]) (by simp) (eqn_fn1 9999 w hu _ _ _)
  ·subst hv;subst hi;exact Bm (by simp[eqGuard_at_nilFunc]) (by simp) (eqn_fn0 9999 w hu)
 ·cases hk
theorem op_cmp(h:Rel E M0 w0 N μ a w x){neg:Bool}{t:TypeId}{o p:Operand}{k:EK}{ar pr:Arg}(hk:cmpK E.P t o p=some k)(h2:dI o=some ar)(h3:dI p=some pr){d:D}{x':AS}
  (hs:step E.G (.cmp neg k ar pr) x=some (d,x')) :
  gd E M0 w0 N μ w x a d x' w (do pure (.value (← (do eqGuard (bif neg then .neq else .eql) t o p (a.eval o) (a.eval p);binOp (bif neg then .neq else .eql) t (a.eval o) (a.eval p):Sem Value)))):=by
 have hv:=cW h h2;have hi:=cW h h3;simp only[stq,aT]at hs;obtain⟨r,hs,he⟩:=hs;cases he;exact iD.of h (bU (cmp_run hk hs hv hi)) (by simp only[aY])
end
section
variable {E:Env} {M0:Nat→Prop} {w0:World} {N:Nat} {μ:Mu} {M:Nat→Prop} {a:Act} {w:World} {x:AS}
variable {o:Operand} {ar:Arg} {t e:TypeId} {n rm rh rl sz:Nat} {P:Program} {l hi m:Option Operand} {l' h' m':Option Arg}
theorem op_un(h:Rel E M0 w0 N μ a w x){op:UnOp}(h2:dI o=some ar){d:D}{x':AS} 
  (hs:step E.G (.un op ar) x=some (d,x')):gd E M0 w0 N μ w x a d x' w (do pure (.value (←Op.unary op (a.eval o)))):=by
 have hv:=cW h h2;simp only[stq,aT]at hs;obtain⟨d',hs,he⟩:=hs;cases he;generalize ar.ev E.G x.t=d1 at *;generalize a.eval o=v at *;cases op<;>cases d1<;>simp only[unD,reduceCtorEq]at hs
 ·cases hs;simp only[aY]at hv;subst hv;rename_i k n;exact iD.of (v:=.int k (k.wrap (0-n))) h (bU (by simp[Op.unary,Op.intArith])) (by simp only[aY,kX])
 ·obtain⟨n,rfl,hr⟩:=uL hs E.P w;simp only[aY]at hv;subst hv;exact iD.of h (bU (by simpa[Op.unary]using hr)) (by simp only[aY])
 ·cases hs;simp only[aY]at hv;subst hv;exact iD.of h (bU (by simp[Op.unary];rfl)) (by simp only[aY])
theorem jA{α:Type}:∀(ds cs:List α) (off:Nat),(fJ cs off ds).length=cs.length
 | [],cs,off=>rfl
 | d::ds,cs,off=>by simp[fJ,jA ds]
theorem bI.set{cs:List D}{vs:List Value}(h:bI (Mm M0 μ) w μ cs vs)(i:Nat){d:D}{v:Value}(hd:aY (Mm M0 μ) w μ d v):bI (Mm M0 μ) w μ (cs.set i d) (vs.set i v):=by
 refine bI.mk (by simp[h.length]) fun j e u he hu=>?_
 rw[List.getElem?_set]at he hu;have hl:=h.length;split at he
 ·grind
 ·rename_i Sg;rw[aG Sg]at hu;exact h.at he hu
theorem bI.setAt:∀{ds:List D} {us:List Value} {cs:List D} {vs:List Value} (off:Nat),bI (Mm M0 μ) w μ cs vs→bI (Mm M0 μ) w μ ds us→bI (Mm M0 μ) w μ (fJ cs off ds) (Zv.fJ vs off us)
 | [],us,cs,vs,off,h,h'=>by
  simp only[bI]at h';subst h';exact h
 | d::ds,us,cs,vs,off,h,h'=>by
  simp only[bI]at h';obtain⟨v,r,rfl,h1,h2⟩:=h';simp only[Zv.fJ];exact bI.setAt (off+1) (h.set off h1) h2
theorem foldl_set(off:Nat):∀(l:List Value) (k:Nat) (cells:Array Value),
  ((l.zipIdx k).foldl (fun(cs:Array Value) (p:Value×Nat)=>cs.setIfInBounds (off+p.2) p.1) cells).toList=fJ cells.toList (off+k) l
 | [],k,cells=>rfl
 | v::l,k,cells=>by
  simp only[List.zipIdx_cons,List.foldl_cons,fJ];rw[foldl_set off l (k+1)]
  grind
theorem uB(h:Rel E M0 w0 N μ a w x)(pl:Nat→Option (Nat×Nat))(g:Nat×Operand→Option (Nat×Nat×Arg))
  (hg:∀p q,g p=some q→pl p.1=some (q.1,q.2.1)∧dI p.2=some q.2.2) :
  ∀(ps:List (Nat×Operand)) (l:List (Nat×Nat×Arg)),ps.mapM g=some l→∀(cs zR:List D) (vs:Array Value),bI (Mm M0 μ) w μ cs vs.toList→place cs (parts E.G x.t l)=some zR →
   ∃Cn,Instr.fill pl vs (ps.map fun p=>(p.1,a.eval p.2))=some Cn∧bI (Mm M0 μ) w μ zR Cn.toList
 | [],l,hl,cs,zR,vs,hr,ho=>by
  simp at hl;subst hl;simp[parts,place]at ho;subst ho;exact⟨vs,rfl,hr⟩
 | p::ps,l,hl,cs,zR,vs,hr,ho=>by
  simp only[List.mapM_cons,aC,aB,Option.pure_def,aD]at hl;obtain⟨q,hq,l',Dx,rfl⟩:=hl;obtain⟨h1,h2⟩:=hg p q hq;simp only[parts,bS,place]at ho;split at ho
  ·rename_i ds hds;cases zT:(Nat.beq ds.length q.2.1&&Nat.ble (q.1+q.2.1) cs.length)<;>rw[zT]at ho
   ·cases ho
   ·simp only[bG,bW]at ho zT;have e1:=bH zT.1;have e2:=cU zT.2;have Dc:=mF hds (cW h h2);have zU:=Dc.length;have Vu:=hr.length;simp only[gZ]at zU Vu;simp only[bS,Instr.fill,h1];rw[aG (by simp;omega)]
    have Cm:((a.eval p.2).cells.zipIdx.foldl (fun(cs:Array Value) (x:Value×Nat)=>match x with|(c,j)=>cs.setIfInBounds (q.1+j) c) vs).toList=fJ vs.toList q.1 (a.eval p.2).cells.toList:=by
     have:=foldl_set q.1 (a.eval p.2).cells.toList 0 vs;rw[Nat.add_zero]at this;rw[←this,←Array.foldl_toList,Array.toList_zipIdx]
    exact uB h pl g hg ps l' Dx _ zR _ (by grind [bI.setAt]) ho
  ·cases ho
theorem vM{P:Program}{α β:Type}{f:α→Sem β}{g:α→β}{w:World}:∀(l:List α),(∀y∈l,(f y).run P w = .ok (g y) w)→(l.mapM f).run P w = .ok (l.map g) w
 | [],_=>by simp
 | y::l,h=>by
  simp only[List.mapM_cons,bJ,h y (by simp),aR,vM l (fun z hz=>h z (by simp[hz])),bV,bS]
theorem op_bld_struct(h:Rel E M0 w0 N μ a w x){fs:Array Field}{ps:Array (Nat×Operand)}{cells:List D}{zd:D}(hz:iX E.P t=some zd)(hc:uO zd=some cells) 
  (hu:E.P.underlying t=some (.struct fs)) {l:List (Nat×Nat×Arg)}
  (hl:ps.toList.mapM (fun(p:Nat×Operand)=>do
    let f ←fs[p.1]?
    let s ←iN E.P f.type
    let a ←dI p.2
    some (f.offset,s,a))=some l) (Aa:fs.all (fun f=>(E.P.info? f.type).isSome)=true) {d:D} {x':AS}
  (hs:step E.G (.bld cells l) x=some (d,x')):gd E M0 w0 N μ w x a d x' w (do pure (.value (←Instr.build t (ps.map fun(i,x)=>(i,a.eval x))))):=by
 simp only[stq,aT]at hs;obtain⟨zR,ho,he⟩:=hs;cases he;simp only[iX,aC,aB]at hz;obtain⟨i,hi,v,hv,hz⟩:=hz;have Gc:=kS (M0:=M0) (w:=w) (μ:=μ) _ _ _ hz;cases zd<;>simp only[uO,reduceCtorEq,aD]at hc
 subst hc;simp only[aY]at Gc;obtain⟨vs,rfl,Gc⟩:=Gc
 let pls:Array (Nat×Nat):=fs.map fun f=>(f.offset,(iN E.P f.type).getD 0)
 obtain⟨Cn,hfill,hr⟩:=uB h (pls[·]?) _ (fun p q hq=>by
  grind [aC,aB,aD]) ps.toList l hl _ zR vs Gc ho
 refine iD.of (v:=.agg Cn) h (bU ?_) (by grind [aY])
 have hm:(fs.mapM fun f=>(do pure (f.offset,←Go.sizeOf f.type):Sem (Nat×Nat))).run E.P w = .ok pls w:=by
  rw[Array.mapM_eq_mapM_toList];simp only[Sem.run_map];rw[vM (g:=fun f=>(f.offset,(iN E.P f.type).getD 0))]
  ·simp only[aR,pls]
   congr 1
   grind
  ·intro f hf;have Em:∀g∈fs.toList,(E.P.info? g.type).isSome=true:=by
    rw[←Array.all_toList,cF]at Aa;exact Aa
   obtain⟨inf,hinf⟩:=eP.1 (Em f hf)
   simp_all [iN,eB]
 simp only[Instr.build,bJ,zeroValue,eZ hi,hv,aR,bV,bL hu,hm,Value.cells]
 simp_all
theorem op_bld_array(h:Rel E M0 w0 N μ a w x){s:Nat}{ps:Array (Nat×Operand)}{cells:List D}{zd:D}(hz:iX E.P t=some zd)(hc:uO zd=some cells) 
  (hu:E.P.underlying t=some (.array n e)) (Ae:iN E.P e=some s) {l:List (Nat×Nat×Arg)}
  (hl:ps.toList.mapM (fun(p:Nat×Operand)=>do
    let a ←dI p.2
    some (p.1*s,s,a))=some l) {d:D} {x':AS}
  (hs:step E.G (.bld cells l) x=some (d,x')):gd E M0 w0 N μ w x a d x' w (do pure (.value (←Instr.build t (ps.map fun(i,x)=>(i,a.eval x))))):=by
 simp only[stq,aT]at hs;obtain⟨zR,ho,he⟩:=hs;cases he;simp only[iX,aC,aB]at hz;obtain⟨i,hi,v,hv,hz⟩:=hz;have Gc:=kS (M0:=M0) (w:=w) (μ:=μ) _ _ _ hz;cases zd<;>simp only[uO,reduceCtorEq,aD]at hc
 subst hc;simp only[aY]at Gc;obtain⟨vs,rfl,Gc⟩:=Gc;obtain⟨Cn,hfill,hr⟩:=uB h (fun i=>some (i*s,s)) _ (fun p q hq=>by
  grind [aC,aB,aD]) ps.toList l hl _ zR vs Gc ho
 refine iD.of (v:=.agg Cn) h (bU ?_) (by grind [aY])
 simp only[Instr.build,bJ,zeroValue,eZ hi,hv,aR,bV,bL hu,eB Ae,Value.cells]
 simp_all
/-! Cuts. -/
theorem mA{o:Option Operand}(h:kB o=some none):o=none:=by
 cases o with
 | none=>rfl
 | some y=>simp[kB]at h
theorem wO{o:Option Operand}(h:kB o=some (some ar)):∃y,o=some y∧dI y=some ar:=by
 cases o with
 | none=>simp[kB]at h
 | some y=>simp_all [kB]
theorem oM{r:Nat}{d:D}{v:Value}(hb:vH n d=some r)(hv:aY (Mm M0 μ) w μ d v){c:Nat}(hc:n≤c)(code:BoundsCode)(w':World):
  (Instr.sliceBound v c code).run P w' = .ok r w'∧r≤n:=by
 cases d<;>simp only[vH,reduceCtorEq]at hb
 rename_i k i;split at hb
 ·rename_i hi;cases hb;simp only[aY]at hv;subst hv;refine⟨?_,by omega⟩
  have:i≤(c:Int):=by omega
  simp_all [Instr.sliceBound,asIntOf]
 ·cases hb
theorem run_bounds{b:Bool}{len C:Nat}{lv hv mv:Option Value}{w:World} 
  (b1:∀v,mv=some v→∀code,(Instr.sliceBound v C code).run P w = .ok rm w) (b1':mv=none→rm=C)
  (b2:∀v,hv=some v→∀code,(Instr.sliceBound v rm code).run P w = .ok rh w) (b2':hv=none→rh=len∧mv=none)
  (b3:∀v,lv=some v→∀code,(Instr.sliceBound v rh code).run P w = .ok rl w) (Zg:lv=none→rl=0) :
  (Instr.sliceBounds b len C lv hv mv).run P w = .ok (rl,rh,rm) w:=by
 cases lv with
 | none=>
  have:=Zg rfl;subst this;cases hv with
  | none=>
   simp_all [Instr.sliceBounds]
  | some h=>
   cases mv with
   | none=>
    simp_all [Instr.sliceBounds]
   | some m=>simp_all [Instr.sliceBounds]
 | some l=>
  cases hv with
  | none=>
   simp_all [Instr.sliceBounds]
  | some h=>
   cases mv with
   | none=>
    simp_all [Instr.sliceBounds]
   | some m=>simp_all [Instr.sliceBounds]
theorem mC(h:Rel E M0 w0 N μ a w x)(hl:kB l=some l')(hh:kB hi=some h')(hm:kB m=some m') 
  (Dl:¬(h'=none∧m'≠none)) {len c C rm rh rl:Nat} (hcC:c≤C) (hlc:len≤c) (b1:gH c c (m'.map (·.ev E.G x.t))=some rm) (b2:gH rm len (h'.map (·.ev E.G x.t))=some rh)
  (b3:gH rh 0 (l'.map (·.ev E.G x.t))=some rl) (b:Bool) :
  (Instr.sliceBounds b len C (l.map a.eval) (hi.map a.eval) (m.map a.eval)).run E.P w = .ok (rl,rh,bif m'.isSome then rm else C) w∧rl≤rh∧rh≤rm∧rm≤c:=by
 have Mj:rm≤c∧(m'=none→rm=c)∧∀v,m.map a.eval=some v→∀code,(Instr.sliceBound v C code).run E.P w = .ok rm w:=by
  cases m' with
  | none=>
   grind [mA,gH]
  | some mr=>
   obtain⟨y,rfl,hy⟩:=wO hm;simp only[bR,gH]at b1;refine⟨(oM (P:=E.P) b1 (cW h hy) hcC .index w).2,(fun e=>by cases e),fun v hv code=>?_⟩
   simp only[bR,aD]at hv;subst hv;exact(oM (P:=E.P) b1 (cW h hy) hcC code w).1
 have hh1:rh≤rm∧(h'=none→rh=len)∧∀v,hi.map a.eval=some v→∀n,rm≤n→∀code,(Instr.sliceBound v n code).run E.P w = .ok rh w:=by
  cases h' with
  | none=>
   grind [mA,gH,absurd]
  | some ar=>
   obtain⟨y,rfl,hy⟩:=wO hh;simp only[bR,gH]at b2;refine⟨(oM (P:=E.P) b2 (cW h hy) (aK _) .index w).2,(fun e=>by cases e),fun v hv n hn code=>?_⟩
   simp only[bR,aD]at hv;subst hv;exact(oM (P:=E.P) b2 (cW h hy) hn code w).1
 have Io:rl≤rh∧(l'=none→rl=0)∧∀v,l.map a.eval=some v→∀code,(Instr.sliceBound v rh code).run E.P w = .ok rl w:=by
  cases l' with
  | none=>
   grind [mA,gH]
  | some ar=>
   obtain⟨y,rfl,hy⟩:=wO hl;simp only[bR,gH]at b3;refine⟨(oM (P:=E.P) b3 (cW h hy) (aK _) .index w).2,(fun e=>by cases e),fun v hv code=>?_⟩
   simp only[bR,aD]at hv;subst hv;exact(oM (P:=E.P) b3 (cW h hy) (aK _) code w).1
 refine⟨?_,Io.1,hh1.1,Mj.1⟩;have e1:∀{o:Option Operand} {r:Option Arg},kB o=some r→o.map a.eval=none→r=none:=by
  intro o r hr he;cases o with
  | none=>grind [kB]
  | some y=>cases he
 refine run_bounds ?_ ?_ ?_ ?_ Io.2.2 (fun he=>Io.2.1 (e1 hl he))
 ·intro v hv code;have:=Mj.2.2 v hv code;cases m' with
  | none=>grind [mA]
  | some y=>exact this
 all_goals grind [mA,absurd]
theorem op_slS(h:Rel E M0 w0 N μ a w x)(hu:E.P.underlying t=some .string)(h2:dI o=some ar) 
  (hl:kB l=some l') (hh:kB hi=some h') {d:D} {x':AS} (hs:step E.G (.slS ar l' h') x=some (d,x')) :
  gd E M0 w0 N μ w x a d x' w (do pure (.value (←Instr.sliceAt t (a.eval o) (l.map a.eval) (hi.map a.eval) ((none:Option Operand).map a.eval)))):=by
 have hv:=cW h h2;simp only[stq]at hs;split at hs
 ·rename_i s he;rw[he]at hv;simp only[aY]at hv;simp only[aC,aB]at hs;obtain⟨rh,b2,rl,b3,hs⟩:=hs;cases hs;obtain⟨zV,h3,h4,h5⟩:=mC (m:=none) (m':=none) h hl hh rfl (by simp) (aK _) (aK _) (show gH s.length s.length none=some s.length from rfl) b2 b3 false
  refine iD.of (v:=.string ((⟨s.toArray⟩:ByteArray).extract rl rh)) h (bU ?_) ?_
  ·have Ae:(⟨s.toArray⟩:ByteArray).size=s.length:=by simp[ByteArray.size]
   simp only[Instr.sliceAt,bJ,bL hu,aR,Instr.slice,hv,Ae,Option.map_none,Option.isSome_none,cT,iV,bV]at zV ⊢
   simp_all
  ·simp only[aY,Value.string.injEq];apply ByteArray.ext
   grind [ByteArray.data_extract,Array.ext',Array.toList_extract,List.extract_eq_take_drop,List.drop_take]
 ·cases hs
theorem nW(hu:P.underlying t=some (.slice e))(Ae:iN P e=some sz){ad:Option Addr}{len cap:Nat}{l h m:Option Value}{w:World} 
  (hb:(Instr.sliceBounds true len cap l h m).run P w = .ok (rl,rh,rm) w) :
  (Instr.sliceAt t (.slice ad len cap) l h m).run P w = .ok (.slice (if rm=rl then ad else ad.map (·.add (rl*sz))) (rh-rl) (rm-rl)) w:=by
 simp only[Instr.sliceAt,bJ,bL hu,aR,Instr.slice,hb,eB Ae,bV]
theorem op_slV(h:Rel E M0 w0 N μ a w x)(hu:E.P.underlying t=some (.slice e))(Ae:iN E.P e=some sz) 
  (h2:dI o=some ar) (hl:kB l=some l') (hh:kB hi=some h') (hm:kB m=some m') (Dl:¬(h'=none∧m'≠none)) {d:D} {x':AS} (hs:step E.G (.slV sz ar l' h' m') x=some (d,x')) :
  gd E M0 w0 N μ w x a d x' w (do pure (.value (←Instr.sliceAt t (a.eval o) (l.map a.eval) (hi.map a.eval) (m.map a.eval)))):=by
 have hv:=cW h h2;simp only[stq]at hs;split at hs
 ·rename_i he;rw[he]at hv;simp only[aY]at hv;simp only[aC,aB]at hs;obtain⟨rm,b1,rh,b2,rl,b3,hs⟩:=hs;cases hs;obtain⟨zV,h3,h4,h5⟩:=mC h hl hh hm Dl (aK _) (aK _) b1 b2 b3 true;refine iD.of h (bU (by rw[hv];exact nW hu Ae zV)) ?_
  grind [aY]
 ·rename_i ex len cs he;rw[he]at hv;simp only[aY]at hv;obtain⟨ad,cap,hv,h6,h7,h8⟩:=hv;simp only[aC,aB]at hs;obtain⟨rm,b1,rh,b2,rl,b3,hs⟩:=hs;cases zT:Nat.ble (rh*sz) cs.length<;>rw[zT]at hs
  ·cases hs
  simp only[bG,aD,eO]at hs;obtain⟨rfl,rfl⟩:=hs;obtain⟨zV,h3,h4,h5⟩:=mC h hl hh hm Dl h6 (aK _) b1 b2 b3 true;refine iD.of h (bU (by rw[hv];exact nW hu Ae zV)) ?_
  simp only[aY];refine⟨_,_,rfl,?_,?_,?_⟩
  ·grind
  ·intro Gg;cases m' with
   | none=>
    simp_all
   | some mm=>
    simp_all
  ·by_cases h0:rh-rl=0
   ·exact .inl h0
   ·right
    rcases h8 with h8|⟨b,q,rfl,h9,Kz,Cr⟩
    ·omega
    ·refine⟨b,q+rl*sz,?_,h9,Kz,(Cr.drop _).take _⟩
     grind [Addr.add_lit]
 ·rename_i nm off z len c he;rw[he]at hv;simp only[aY]at hv;obtain⟨lo,b,h6,h7,hv,h8,h9⟩:=hv;simp only[aC,aB]at hs;obtain⟨rm,b1,rh,b2,rl,b3,hs⟩:=hs;cases hz:Nat.beq z sz<;>rw[hz]at hs
  ·cases hs
  have Gw:=bH hz;subst Gw;simp only[bG,aD,eO]at hs;obtain⟨rfl,rfl⟩:=hs;obtain⟨zV,h3,h4,h5⟩:=mC h hl hh hm Dl (aK _) h8 b1 b2 b3 true;have Lb:(bif m'.isSome then rm else c)=rm:=by
   cases m' with
   | none=>grind [gH]
   | some y=>rfl
  rw[Lb]at zV;refine iD.of h (bU (by rw[hv];exact nW hu Ae zV)) ?_
  simp only[aY];refine⟨lo,b,h6,h7,?_,by omega,?_⟩
  ·by_cases Gf:rm=rl
   ·subst Gf;simp
   ·simp[Gf,jH Gf,Addr.add_lit]
  ·by_cases Gf:rm=rl
   ·subst Gf;simp;omega
   ·rw[jH Gf];simp only[cO];have:rl*z+(rm-rl)*z=rm*z:=by rw[←Nat.add_mul];congr 1;omega
    have:rm*z≤c*z:=Nat.mul_le_mul_right _ h5;omega
 ·rename_i nm off z len he;rw[he]at hv;simp only[aY]at hv;obtain⟨lo,cap,h6,hv,h8,h9,Kz⟩:=hv;split at hs
  ·simp only[aC,aB]at hs;obtain⟨rh,b2,rl,b3,hs⟩:=hs;cases hz:Nat.beq z sz<;>rw[hz]at hs
   ·cases hs
   have Gw:=bH hz;subst Gw;obtain⟨zV,h3,h4,h5⟩:=mC h hl hh hm Dl h8 (aK _) (show gH len len (Option.map (fun y:Arg=>y.ev E.G x.t) none)=some len from rfl) b2 b3 true
   simp only[Option.isSome_none,cO]at zV;simp only[bG]at hs;have Ba:=nW (ad:=lo.blk.map fun b=>⟨b,off,none⟩) hu Ae zV
   cases h0:Nat.beq rl 0<;>rw[h0]at hs
   ·cases zQ:Nat.blt rl rh<;>rw[zQ]at hs
    ·simp only[cO,aD,eO]at hs;obtain⟨rfl,rfl⟩:=hs;refine iD.of h (bU (by rw[hv];exact Ba)) ?_
     simp only[aY];have:¬rl<rh:=fun hc=>by grind [Nat.blt_eq]
     simp_all
    ·simp only[cO,bG,aD,eO]at hs;obtain⟨rfl,rfl⟩:=hs;have Gm:rl<rh:=by simpa[Nat.blt_eq]using zQ
     refine iD.of h (bU (by rw[hv];exact Ba)) ?_
     simp only[aY];refine⟨lo,cap-rl,h6,?_,by omega,?_,fun hn=>by grind⟩
     ·rw[aG (by omega)]
      cases lo.blk<;>simp[Addr.add_lit]
     ·have:rl*z+(cap-rl)*z=cap*z:=by rw[←Nat.add_mul];congr 1;omega
      omega
   ·have e0:=bH h0;subst e0;simp only[bG,aD,eO]at hs;obtain⟨rfl,rfl⟩:=hs;refine iD.of h (bU (by rw[hv];exact Ba)) ?_
    simp only[aY];refine⟨lo,cap,h6,?_,by omega,h9,Kz⟩
    cases lo.blk<;>simp[Addr.add_zero']
  ·rename_i mr;simp only[aC,aB]at hs;obtain⟨rm,b1,rh,b2,rl,b3,hs⟩:=hs;cases hz:(Nat.beq z sz&&Nat.blt 0 len)<;>rw[hz]at hs
   ·cases hs
   simp only[bW]at hz;have Gw:=bH hz.1;have zU:0<len:=by simpa[Nat.blt_eq]using hz.2
   subst Gw;simp only[bG,aD,eO]at hs;obtain⟨rfl,rfl⟩:=hs;obtain⟨zV,h3,h4,h5⟩:=mC h hl hh hm Dl h8 (aK _) (show gH len len (Option.map (fun y:Arg=>y.ev E.G x.t) (some mr))=some rm from b1) b2 b3 true
   simp only[Option.isSome_some,bG]at zV;have Ba:=nW (ad:=lo.blk.map fun b=>⟨b,off,none⟩) hu Ae zV
   refine iD.of h (bU (by rw[hv];exact Ba)) ?_
   simp only[aY];cases hb:lo.blk with
   | none=>grind
   | some b=>
    refine⟨lo,b,h6,hb,?_,by omega,?_⟩
    ·by_cases Gf:rm=rl
     ·subst Gf;simp
     ·simp[Gf,jH Gf,Addr.add_lit]
    ·by_cases Gf:rm=rl
     ·subst Gf;simp;omega
     ·rw[jH Gf];simp only[cO];have:rl*z+(rm-rl)*z=rm*z:=by rw[←Nat.add_mul];congr 1;omega
      have:rm*z≤cap*z:=Nat.mul_le_mul_right _ (by omega)
      omega
 ·cases hs
theorem run_slice_a(hu:P.underlying t=some (.array n e))(Ae:iN P e=some sz){b off:Nat}{l h m:Option Value}{w:World} 
  (hb:(Instr.sliceBounds false n n l h m).run P w = .ok (rl,rh,rm) w) :
  (Instr.sliceAt t (.pointer (some ⟨b,off,none⟩)) l h m).run P w = .ok (.slice (some (if rm=rl then⟨b,off,none⟩ else⟨b,off+rl*sz,none⟩)) (rh-rl) (rm-rl)) w:=by
 simp only[Instr.sliceAt,bJ,bL hu,aR,Instr.sureAddr,hb,eB Ae,bV,Addr.add_lit]
theorem op_slA(h:Rel E M0 w0 N μ a w x)(hu:E.P.underlying t=some (.array n e))(Ae:iN E.P e=some sz) 
  (h2:dI o=some ar) (hl:kB l=some l') (hh:kB hi=some h') (hm:kB m=some m') (Dl:¬(h'=none∧m'≠none)) {d:D} {x':AS} (hs:step E.G (.slA n sz ar l' h' m') x=some (d,x')) :
  gd E M0 w0 N μ w x a d x' w (do pure (.value (←Instr.sliceAt t (a.eval o) (l.map a.eval) (hi.map a.eval) (m.map a.eval)))):=by
 have hv:=cW h h2;simp only[stq,aC,aB]at hs;obtain⟨rm,b1,rh,b2,rl,b3,hs⟩:=hs;obtain⟨zV,h3,h4,h5⟩:=mC h hl hh hm Dl (aK _) (aK _) b1 b2 b3 false;have Lb:(bif m'.isSome then rm else n)=rm:=by
  cases m' with
  | none=>grind [gH]
  | some y=>rfl
 rw[Lb]at zV;split at hs
 ·rename_i nm off he;rw[he]at hv;simp only[aY]at hv;obtain⟨lo,b,h6,h7,hv⟩:=hv;simp only[aB]at hs;obtain⟨blk,hg,cs,hbc,hs⟩:=hs;cases zT:Nat.ble (off+rm*sz) cs.length<;>rw[zT]at hs
  ·cases hs
  have Ac:=cU zT;simp only[bG,aD,eO]at hs;obtain⟨rfl,rfl⟩:=hs;obtain⟨l0,k1,k2,k3⟩:=nL h h6 hg hbc;rw[h6]at k1;cases k1;obtain⟨_,_,vs,ee,fz,_,_,k4,k5,_⟩:=k3 b h7;refine iD.of h (bU (by rw[hv];exact run_slice_a hu Ae zV)) ?_
  simp only[aY];refine⟨lo,b,h6,h7,?_,by omega,?_⟩
  ·by_cases Gf:rm=rl
   ·subst Gf;simp
   ·simp[Gf,jH Gf]
  ·by_cases Gf:rm=rl
   ·grind
   ·rw[jH Gf];simp only[cO];have:rl*sz+(rm-rl)*sz=rm*sz:=by rw[←Nat.add_mul];congr 1;omega
    omega
 ·rename_i cs off he;rw[he]at hv;simp only[aY]at hv;obtain⟨b,q,hv,h6,h7,h8⟩:=hv;cases zT:Nat.ble (off+rh*sz) cs.length<;>rw[zT]at hs
  ·cases hs
  simp only[bG,aD,eO]at hs;obtain⟨rfl,rfl⟩:=hs;refine iD.of h (bU (by rw[hv];exact run_slice_a hu Ae zV)) ?_
  simp only[aY];refine⟨_,_,rfl,by omega,fun he=>?_,?_⟩
  ·simp_all
  ·by_cases h0:rh-rl=0
   ·exact .inl h0
   ·refine .inr ⟨b,q+(off+rl*sz),?_,h6,h7,(h8.drop _).take _⟩
    grind
 ·cases hs
/-! Lengths, numbers. -/
theorem lenD_rel{ty:TypeId}{st:Bool}{d:D}{v:Value}(hn:lenD st d=some n)(hv:aY (Mm M0 μ) w μ d v) 
  (hu:if st then P.underlying t=some .string else ∃e,P.underlying t=some (.slice e)) (w':World):(Builtin.len_ #[t] ty #[v]).run P w' = .ok (.int .i64 n) w':=by
 cases st
 ·simp only[cT,iV]at hu;obtain⟨e,hu⟩:=hu;cases d<;>simp only[lenD,aD,reduceCtorEq]at hn
  all_goals subst hn;simp only[aY]at hv
  ·simp_all [Builtin.len_,bL,goInt]
  ·obtain⟨ad,cap,rfl,_⟩:=hv;simp[Builtin.len_,bL hu,goInt]
  ·obtain⟨l,b,_,_,rfl,_⟩:=hv;simp[Builtin.len_,bL hu,goInt]
  ·obtain⟨l,b,_,rfl,_⟩:=hv;simp[Builtin.len_,bL hu,goInt]
 ·simp only[if_true]at hu;cases d<;>simp only[lenD,aD,reduceCtorEq]at hn
  subst hn;simp only[aY]at hv;subst hv;simp only[Builtin.len_,bL hu,bJ,aR,goInt,bV,List.getElem?_toArray,aV];simp;rfl
end
end Zv
