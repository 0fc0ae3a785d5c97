/- Slices that came in, loops: plain laws for running abstract code on typed values. Conditions: none. -/
import Derived.Test.YtnpoohbeicakkaaGreatDoorZAJ
set_option linter.unusedVariables false
set_option linter.unusedSimpArgs false
namespace Zv
open Go
/-! Slices that came in. -/
def jN(w:Nat)(rows:List (List D))(d:D):Prop:=(∀r∈rows,r.length=w)∧((d = .nils∧rows=[])∨∃ex,d = .sl ex rows.length rows.flatten)
theorem jN.lenD{w:Nat}{rows:List (List D)}{d:D}(h:jN w rows d):lenD false d=some rows.length:=by
 rcases h.2 with⟨rfl,rfl⟩|⟨ex,rfl⟩<;>rfl
theorem mM{w:Nat}:∀{rows:List (List D)} {i:Nat} {r:List D},(∀r∈rows,r.length=w)→rows[i]?=some r→(rows.flatten.drop (i*w)).take w=r∧i*w+w≤rows.flatten.length
 | [],i,r,h,hr=>by simp at hr
 | x::rows,0,r,h,hr=>by
  simp only[aT,aC]at hr;subst hr;have:=h x (by simp)
  rw[eI,dV,fU,←this];simp
 | x::rows,i+1,r,h,hr=>by
  have hx:=h x (by simp)
  obtain⟨h1,h2⟩:=mM (w:=w) (i:=i) (fun r hr=>h r (by simp[hr])) (show rows[i]?=some r by simpa using hr)
  refine⟨?_,?_⟩
  ·rw[eI,Nat.add_mul,Nat.one_mul,Nat.add_comm,←List.drop_drop];rw[show(x++rows.flatten).drop w=rows.flatten by rw[←hx];simp]
   exact h1
  ·rw[eI,dD,hx,Nat.add_mul,Nat.one_mul];omega
theorem fM{n i:Nat}{k:IntKind}(h:i<n):kQ n (.int k (i:Int))=some i:=by
 simp only[kQ];rw[aH ⟨by omega,by omega⟩,cU]
theorem jN.ia{w:Nat}{rows:List (List D)}{d:D}(h:jN w rows d){i:Nat}(hi:i<rows.length){k:IntKind}:kE w d (.int k (i:Int))=some (.iptr rows.flatten (i*w)):=by
 rcases h.2 with⟨rfl,rfl⟩|⟨ex,rfl⟩
 ·simp at hi
 ·simp only[kE,fM hi,bJ]
theorem jN.row{w:Nat}{rows:List (List D)}{d:D}(h:jN w rows d){i:Nat}(hi:i<rows.length):dE rows.flatten (i*w) (some w)=some (.agg rows[i]):=by
 obtain⟨h1,h2⟩:=mM h.1 (aI hi);simp only[dE,bZ h2,aS,h1]
theorem jN.cell{w:Nat}{rows:List (List D)}{d:D}(h:jN w rows d){i:Nat}(hi:i<rows.length){o:Nat}(ho:o<w):rows.flatten[i*w+o]?=rows[i][o]?:=by
 obtain⟨h1,h2⟩:=mM h.1 (aI hi);rw[←h1,eL,aH ho,List.getElem?_drop]
theorem jN.cell0{w:Nat}{rows:List (List D)}{d:D}(h:jN w rows d){i:Nat}(hi:i<rows.length)(ho:0<w):rows.flatten[i*w]?=rows[i][0]?:=h.cell hi ho
theorem jN.ble{w:Nat}{rows:List (List D)}{d:D}(h:jN w rows d){i:Nat}(hi:i<rows.length):i*w+w≤rows.flatten.length:=(mM h.1 (aI hi)).2
theorem jN.tk{w:Nat}{rows:List (List D)}{d:D}(h:jN w rows d){i:Nat}(hi:i<rows.length):(rows.flatten.drop (i*w)).take w=rows[i]:=(mM h.1 (aI hi)).1
theorem jN.nag{w:Nat}{rows:List (List D)}{d:D}(h:jN w rows d):eU d=false:=by
 rcases h.2 with⟨rfl,rfl⟩|⟨ex,rfl⟩<;>rfl
theorem jN.fz{w:Nat}{rows:List (List D)}{d:D}(h:jN w rows d)(n:Nat)(s:St):frz false (n+1) s d=some d:=by
 rcases h.2 with⟨rfl,rfl⟩|⟨ex,rfl⟩<;>rfl
theorem jN.pure{w:Nat}{rows:List (List D)}{d:D}(h:jN w rows d):d.pure=true:=by
 rcases h.2 with⟨rfl,rfl⟩|⟨ex,rfl⟩<;>rfl
theorem jN.cellsq{w:Nat}{rows:List (List D)}{d:D}(h:jN w rows d):d.cells?=some [d]:=by
 rcases h.2 with⟨rfl,rfl⟩|⟨ex,rfl⟩<;>rfl
theorem tE{w:Nat}:∀{rows:List (List D)},(∀r∈rows,r.length=w)→rows.flatten.length=rows.length*w
 | [],h=>by simp
 | x::rows,h=>by
  rw[eI,dD,h x (by simp),tE (fun r hr=>h r (by simp[hr])),aU,Nat.add_mul,Nat.one_mul,Nat.add_comm]
theorem wC{w:Nat}:∀{rows:List (List D)} {i:Nat},(∀r∈rows,r.length=w)→i≤rows.length→rows.flatten.take (i*w)=(rows.take i).flatten
 | rows,0,h,hi=>by simp
 | [],i+1,h,hi=>by simp at hi
 | x::rows,i+1,h,hi=>by
  have hx:=h x (by simp)
  rw[eI,List.take_succ_cons,eI,Nat.add_mul,Nat.one_mul,Nat.add_comm,←hx,List.take_length_add_append,hx,
   wC (fun r hr=>h r (by simp[hr])) (by simpa using hi)]
theorem xP{w:Nat}:∀{rows:List (List D)} {i:Nat},(∀r∈rows,r.length=w)→i≤rows.length→rows.flatten.drop (i*w)=(rows.drop i).flatten
 | rows,0,h,hi=>by simp
 | [],i+1,h,hi=>by simp at hi
 | x::rows,i+1,h,hi=>by
  have hx:=h x (by simp)
  rw[eI,List.drop_succ_cons,Nat.add_mul,Nat.one_mul,Nat.add_comm,←hx,←List.drop_drop,List.drop_left,hx,
   xP (fun r hr=>h r (by simp[hr])) (by simpa using hi)]
theorem kT{n i:Nat}{k:IntKind}(h:i≤n):uO n (.int k (i:Int))=some i:=by
 simp only[uO];rw[aH ⟨by omega,by omega⟩,cU]
theorem jN.part{w:Nat}{rows:List (List D)}{d:D}(h:jN w rows d){i j:Nat}(hij:i≤j)(hj:j≤rows.length){k k':IntKind}:
  ∃d',vB w d (some (.int k (i:Int))) (some (.int k' (j:Int))) none=some d'∧jN w ((rows.take j).drop i) d':=by
 rcases h.2 with⟨rfl,rfl⟩|⟨ex,rfl⟩
 ·simp only[bN,Nat.le_zero]at hj;subst hj;have:i=0:=by omega
  subst this;exact⟨.nils,by simp only[vB,fT,aB,aO,kT (aJ 0)],by simp[jN]⟩
 ·refine⟨_,?_,fun r hr=>h.1 r (eW (List.mem_of_mem_drop hr)),.inr ⟨ex&&Nat.beq j rows.length,rfl⟩⟩
  have h1:Nat.ble (j*w) rows.flatten.length=true:=by
   rw[tE h.1];exact bZ (Nat.mul_le_mul_right w hj)
  simp only[vB,fT,kT hij,kT hj,aB,aO,Option.isSome_none,Bool.false_and,bQ,Bool.true_and,Bool.false_or,h1,aS,fO,dG,Nat.min_eq_left hj];have e:((rows.take j).drop i).flatten=(rows.flatten.drop (i*w)).take ((j-i)*w):=by
   rw[←xP (w:=w) (fun r hr=>h.1 r (eW hr)) (by rw[dG];omega),←wC h.1 hj,List.drop_take,Nat.sub_mul]
  rw[e]
theorem slVD_hi{w:Nat}{d:D}(hd:d.pure=true)(h:Option D):vB w d none h none=vB w d (some (.int .i64 (0:Nat))) h none:=by
 cases d<;>simp only[D.pure,reduceCtorEq,cN]at hd<;>simp only[vB,fT,kT (dK _)]
theorem jN.head{w:Nat}{rows:List (List D)}{d:D}(h:jN w rows d){j:Nat}(hj:j≤rows.length){k:IntKind}:
  ∃d',vB w d none (some (.int k (j:Int))) none=some d'∧jN w (rows.take j) d':=by
 obtain⟨d',h1,h2⟩:=h.part (dK j) hj (k:=.i64) (k':=k);exact⟨d',by rw[slVD_hi h.pure];exact h1,h2⟩
/-! Slices whose rows stand for typed values. -/
def Sl{α:Type}(w:Nat)(e:α→List D)(l:List α)(d:D):Prop:=jN w (l.map e) d
section
variable {α:Type} {w:Nat} {e:α→List D} {l:List α} {d:D} (h:Sl w e l d)
include h
theorem Sl.len:lenD false d=some l.length:=by have:=jN.lenD h;rwa [fA]at this
theorem Sl.ia{i:Nat}(hi:i<l.length){k:IntKind}:kE w d (.int k (i:Int))=some (.iptr (l.map e).flatten (i*w)):=jN.ia h (by simpa using hi)
theorem Sl.cell{i:Nat}(hi:i<l.length){o:Nat}(ho:o<w):(l.map e).flatten[i*w+o]?=(e l[i])[o]?:=by
 have:=jN.cell h (i:=i) (by simpa using hi) ho
 rwa [List.getElem_map]at this
theorem Sl.cell0{i:Nat}(hi:i<l.length)(ho:0<w):(l.map e).flatten[i*w]?=(e l[i])[0]?:=Sl.cell h hi ho
theorem Sl.row{i:Nat}(hi:i<l.length):dE (l.map e).flatten (i*w) (some w)=some (.agg (e l[i])):=by
 have:=jN.row h (i:=i) (by simpa using hi)
 rwa [List.getElem_map]at this
theorem Sl.fz(n:Nat)(s:St):frz false (n+1) s d=some d:=jN.fz h n s
theorem Sl.pure:d.pure=true:=jN.pure h
theorem Sl.nag:eU d=false:=jN.nag h
theorem Sl.cellsq:d.cells?=some [d]:=jN.cellsq h
theorem Sl.head{j:Nat}(hj:j≤l.length){k:IntKind}:∃d',vB w d none (some (.int k (j:Int))) none=some d'∧Sl w e (l.take j) d':=by
 obtain⟨d',h1,h2⟩:=jN.head h (j:=j) (by simpa using hj) (k:=k)
 exact⟨d',h1,by rwa [←List.map_take]at h2⟩
theorem Sl.part{i j:Nat}(hij:i≤j)(hj:j≤l.length){k k':IntKind}:∃d',vB w d (some (.int k (i:Int))) (some (.int k' (j:Int))) none=some d'∧Sl w e ((l.take j).drop i) d':=by
 obtain⟨d',h1,h2⟩:=jN.part h hij (by simpa using hj) (k:=k) (k':=k')
 exact⟨d',h1,by rwa [←List.map_take,←List.map_drop]at h2⟩
end
theorem Sl.ia1{α:Type}{e:α→List D}{l:List α}{d:D}(h:Sl 1 e l d){i:Nat}(hi:i<l.length){k:IntKind}:kE 1 d (.int k (i:Int))=some (.iptr (l.map e).flatten i):=by rw[h.ia hi,dL]
theorem Sl.at1{α:Type}{e:α→List D}{l:List α}{d:D}(h:Sl 1 e l d){i:Nat}(hi:i<l.length):(l.map e).flatten[i]?=(e l[i])[0]?:=by have:=h.cell0 hi Nat.one_pos;rwa [dL]at this
theorem gN(args:List D)(s:St)(c:Nat):start args s c=⟨jZ 0 args tm0,s,c,[],none⟩:=rfl
/-! Loops. -/
@[elab_as_elim] theorem zloop_any {Q:R→Prop} (rl:R) {k:Nat} {f:AS→R} {x:AS} (hl:zloop k f x=rl) (n:Nat) (hk:n<k) (I:Nat→AS→Prop) (h0:I 0 x)
  (hs:∀i x,i≤n→I i x→(∃y,f x = .ok .normal y∧i<n∧I (i+1) y)∨(Q (f x)∧∀y,f x≠.ok .normal y)):Q rl:=by
 have main:∀m i k x,i+m=n→m<k→I i x→Q (zloop k f x):=by
  intro m
  induction m with
  | zero=>
   intro i k x hi hk hI;obtain⟨k,rfl⟩:∃j,k=j+1:=⟨k-1,by omega⟩
   show Q (zbind (f x) (zloop k f));rcases hs i x (by omega) hI with⟨y,hy,hlt,_⟩|⟨hq,hn⟩
   ·omega
   ·cases hf:f x with
    | no=>rw[hf]at hq;exact hq
    | ok o y=>cases o with
     | normal=>exact absurd hf (hn y)
     | _=>rw[hf]at hq;exact hq
  | succ m ih=>
   intro i k x hi hk hI;obtain⟨k,rfl⟩:∃j,k=j+1:=⟨k-1,by omega⟩
   show Q (zbind (f x) (zloop k f));rcases hs i x (by omega) hI with⟨y,hy,hlt,hI'⟩|⟨hq,hn⟩
   ·rw[hy];exact ih (i+1) k y (by omega) (by omega) hI'
   ·cases hf:f x with
    | no=>rw[hf]at hq;exact hq
    | ok o y=>cases o with
     | normal=>exact absurd hf (hn y)
     | _=>rw[hf]at hq;exact hq
 subst hl;exact main n 0 k x (by omega) hk h0
def Go1(Q:R→Prop)(N:AS→Prop)(r:R):Prop:=match r with
 | .ok .normal z=>N z
 | .ok o z=>Q (.ok o z)
 | .no=>False
theorem go1{Q:R→Prop}{N:AS→Prop}:(∀z,Go1 Q N (.ok .normal z)=N z)∧(∀i z,Go1 Q N (.ok (.exit i) z)=Q (.ok (.exit i) z))∧(∀z,Go1 Q N (.ok .ret z)=Q (.ok .ret z))∧(∀c z,Go1 Q N (.ok (.pan c) z)=Q (.ok (.pan c) z)):=
 ⟨fun _=>rfl,fun _ _=>rfl,fun _=>rfl,fun _ _=>rfl⟩
@[elab_as_elim] theorem zwhile {Q:R→Prop} (rl:R) {k:Nat} {f:AS→R} {x:AS} (hz:zloop k f x=rl) (n:Nat) (hk:n<k) (I:Nat→AS→Prop) (h0:I 0 x)
  (hs:∀i x,i≤n→I i x→Go1 Q (fun z=>i<n∧I (i+1) z) (f x)):Q rl:=
 zloop_any rl hz n hk I h0 fun i x hi hI=>by
  have h:=hs i x hi hI;cases hf:f x with
  | no=>rw[hf]at h;exact h.elim
  | ok o y=>
   rw[hf]at h;cases o with
   | normal=>exact .inl ⟨y,rfl,h⟩
   | exit i=>exact .inr ⟨h,fun y h=>by cases h⟩
   | ret=>exact .inr ⟨h,fun y h=>by cases h⟩
   | pan c=>exact .inr ⟨h,fun y h=>by cases h⟩
theorem gT{n:Int}(h : -9223372036854775808≤n)(h':n<9223372036854775808):dJ .i64 n=n:=kW (by simp only[loK];omega) (by simp only[hiK];omega)
theorem kV{a:Nat}(h:a<9223372036854775807):dJ .i64 ((a:Int)+1)=((a+1:Nat):Int):=by rw[gT (by omega) (by omega)];rfl
@[elab_as_elim] theorem zrange {Q:R→Prop} (rl:R) {cx:Cx} {cl:CL} {k ti tn tc tj id id':Nat} {body:AC} {t0:Tm} {s0:St} {c0:Nat} {d:List (D×List D)} {r:Option Nat}
  (hz:zloop k (zC (.seq (.reg none [⟨some tc,.bin .lss (.t ti) (.t tn),none⟩]) (.seq (.cond (.t tc) .skip (.exit id)) (.seq (.block id' body) (.reg none [⟨some tj,.bin .add (.t ti) (.c (.int .i64 1)),none⟩,⟨some ti,.mv (.t tj),none⟩])))) cx cl k)
   ⟨t0,s0,c0,d,r⟩=rl)
  (n:Nat) (hk:n<k) (h63:n<9223372036854775807) (I:Nat→Tm→St→Nat→Prop) (hne:ti≠tc∧tn≠tc)
  (hi:tget t0 ti = .int .i64 0) (hn:tget t0 tn = .int .i64 n) (h0:I 0 t0 s0 c0)
  (hs:∀i t s c,i<n→I i t s c→tget t ti = .int .i64 i→tget t tn = .int .i64 n →
   Go1 Q (fun z=>z.d=d∧z.r=r∧tget z.t ti = .int .i64 i∧(tn=ti∨tn=tj∨tget z.t tn = .int .i64 n)∧tn≠ti∧tn≠tj∧I (i+1) (tput (tput z.t tj (.int .i64 (i+1:Nat))) ti (.int .i64 (i+1:Nat))) z.s z.c)
    (mG id' (zC body cx cl k ⟨tput t tc (.bool true),s,c,d,r⟩)))
  (he:∀t s c,I n t s c→tget t ti = .int .i64 n→tget t tn = .int .i64 n→Q (.ok (.exit id) ⟨tput t tc (.bool false),s,c,d,r⟩)):Q rl:=by
 refine zloop_any rl hz n hk (fun i x=>∃t s c,x=⟨t,s,c,d,r⟩∧tget t ti = .int .i64 i∧tget t tn = .int .i64 n∧I i t s c) ⟨t0,s0,c0,rfl,hi,hn,h0⟩ ?_
 rintro i x hi' ⟨t,s,c,rfl,h1,h2,h3⟩;simp only[eZ,rX,rW,aE,rJ,h1,h2,↓reduceIte,bJ,Int.ofNat_lt];by_cases hlt:i<n
 ·have hg:=hs i t s c hlt h3 h1 h2;simp only[hlt,aV,eZ];cases hb:mG id' (zC body cx cl k ⟨tput t tc (.bool true),s,c,d,r⟩) with
  | no=>rw[hb]at hg;exact hg.elim
  | ok o z=>
   rw[hb]at hg;cases o with
   | normal=>
    obtain⟨g1,g2,g3,g4,g5,g6,g7⟩:=hg
    left
    obtain⟨zt,zs,zc,zd,zr⟩:=z;simp only at g1 g2 g3 g4 g7;subst g1 g2;have g4':tget zt tn = .int .i64 n:=by
     rcases g4 with e|e|e
     ·exact absurd e g5
     ·exact absurd e g6
     ·exact e
    simp only[eZ,rX,rW,aE,rJ,g3,bJ,kV (show i<9223372036854775807 by omega),↓reduceIte]
    refine⟨_,rfl,trivial,_,_,_,rfl,?_,?_,g7⟩
    ·rw[kI,aH rfl]
    ·rw[kI,aD g5,kI,aD g6];exact g4'
   | exit j=>right;exact⟨hg,fun y h=>by simp only[eZ]at h;cases h⟩
   | ret=>right;exact⟨hg,fun y h=>by simp only[eZ]at h;cases h⟩
   | pan ch=>right;exact⟨hg,fun y h=>by simp only[eZ]at h;cases h⟩
 ·have e:i=n:=by omega
  subst e
  right
  simp only[hlt,bM,eZ];exact⟨he t s c h3 h1 h2,fun y h=>by cases h⟩
theorem ex_dat:(∀(cs:List D) (off:Nat),dE cs off none=cs[off]?)∧(∀(s:St) (cs:List D) (off:Nat),seen s (.iptr cs off)=some (cs,off)) ∧
  (∀(s:St) (nm off:Nat),seen s (.ptr nm off)=(sget s nm).bind fun b=>(dX b).map fun cs=>(cs,off))∧(∀(ty:Nat) (cs:List D),dX (.fix ty cs)=some cs)∧(∀(ty:Nat) (cs:List D),dX (.grow ty cs)=some cs) ∧
  (∀(k:IntKind) (i:Int),(D.int k i).cells?=some [.int k i])∧(∀(b:Bool),(D.bool b).cells?=some [.bool b])∧(∀(b:List UInt8),(D.str b).cells?=some [.str b])∧(∀(cs:List D),(D.agg cs).cells?=some cs)∧(D.nils.cells?=some [.nils]) ∧
  (∀(a b c d e:Nat),(D.ms a b c d e).cells?=some [.ms a b c d e])∧(∀(a b c d:Nat),(D.gs a b c d).cells?=some [.gs a b c d])∧(∀(a b:Nat),(D.ptr a b).cells?=some [.ptr a b])∧(∀(a:Nat),(D.mp a).cells?=some [.mp a]) ∧
  (∀(off:Nat) (cs:List D),eS cs off ([]:List D)=cs)∧(∀(off:Nat) (cs:List D) (v:D) (vs:List D),eS cs off (v::vs)=eS (cs.set off v) (off+1) vs) ∧
  (∀(a b:Nat),Nat.ble a b=decide (a≤b))∧(∀(a b:Nat),Nat.beq a b=decide (a=b)) ∧
  (∀(k:IntKind) (i:Int),eU (.int k i)=false)∧(∀(b:Bool),eU (.bool b)=false)∧(∀(b:List UInt8),eU (.str b)=false)∧(eU .nils=false)∧(∀(a b c d e:Nat),eU (.ms a b c d e)=false)∧(∀(a b c d:Nat),eU (.gs a b c d)=false)∧(∀(a b:Nat),eU (.ptr a b)=false)∧(∀(a:Nat),eU (.mp a)=false):=by
 refine⟨fun _ _=>rfl,fun _ _ _=>rfl,fun s nm off=>?_,fun _ _=>rfl,fun _ _=>rfl,fun _ _=>rfl,fun _=>rfl,fun _=>rfl,fun _=>rfl,rfl,fun _ _ _ _ _=>rfl,fun _ _ _ _=>rfl,fun _ _=>rfl,fun _=>rfl,fun _ _=>by simp[eS],fun _ _ _ _=>rfl,
  fun a b=>?_,fun a b=>?_,fun _ _=>rfl,fun _=>rfl,fun _=>rfl,rfl,fun _ _ _ _ _=>rfl,fun _ _ _ _=>rfl,fun _ _=>rfl,fun _=>rfl⟩
 ·simp only[seen,aB];cases sget s nm with
  | none=>rfl
  | some b=>simp only[aO];cases dX b<;>rfl
 ·rw[dC];simp[Nat.ble_eq]
 ·rw[dC];simp[Nat.beq_eq]
theorem ex_str:(∀(x y:List UInt8),jY .eql (.str x) (.str y)=some (.bool (decide (x=y))))∧(∀(x y:List UInt8),jY .neq (.str x) (.str y)=some (.bool (!decide (x=y))))∧(∀(s:List UInt8),lenD true (.str s)=some s.length) ∧
  (∀(b:Bool),unD .not (.bool b)=some (.bool (!b)))∧(∀(k:IntKind) (n:Int),unD .neg (.int k n)=some (.int k (dJ k (0-n))))∧(∀(G:List (Nat×List D)) (t:Tm) (n:Nat),(Arg.g n).ev G t=(match lget G n with|some l=>.iptr l 0|none=>.un)) ∧
  (∀(a:D),xY a=[a])∧(∀(o:Option D),undD o=match o with|some d=>d|none=>.un):=by
 refine⟨fun x y=>?_,fun x y=>?_,fun _=>rfl,fun _=>rfl,fun _ _=>rfl,fun G t n=>?_,fun _=>rfl,fun o=>by cases o<;>rfl⟩
 ·show some (D.bool (x==y))=_;rw[show(x==y)=decide (x=y) from by rw[dC];simp]
 ·show some (D.bool (!(x==y)))=_;rw[show(x==y)=decide (x=y) from by rw[dC];simp]
 ·show(Option.rec D.un (fun l=>D.iptr l 0) (lget G n):D)=_
  cases lget G n<;>rfl
theorem ex_gd:(∀(cx:Cx) (cl:CL) (dst:Option Nat) (op:AOp) (g:Nat) (w:Bool) (r:List cR) (x:AS),nL cx cl (⟨dst,op,some (g,w)⟩::r) x=zgd (tget x.t g) w (zbind (zOp cx cl ⟨dst,op,some (g,w)⟩ x) (nL cx cl r)) (nL cx cl r ⟨iI dst x.t (.tup []),x.s,x.c,x.d,x.r⟩)):=
 zOps_g
theorem idxD_0{n:Nat}{k:IntKind}(h:0<n):kQ n (.int k 0)=some 0:=fM (i:=0) h
theorem aQ:(∀(o:List D→Option (D×Bool)) (args:List D) (s:St) (c:Nat),pcall o args s c=(match args.mapM (frz false 20 s) with
   | some fa=>match o fa with
    | some p=>bif p.2||(p.1.flat||D.pures args) then .ok (.ret p.1) s c else .no
    | none=>.no
   | none=>.no)) ∧
  (∀(f:D→Option D),([]:List D).mapM f=some [])∧(∀(f:D→Option D) (a:D) (l:List D),(a::l).mapM f=(f a).bind fun b=>(l.mapM f).map fun r=>b::r) ∧
  (∀(p:Bool) (n:Nat) (s:St) (k:IntKind) (i:Int),frz p (n+1) s (.int k i)=some (.int k i))∧(∀(p:Bool) (n:Nat) (s:St) (b:Bool),frz p (n+1) s (.bool b)=some (.bool b))∧(∀(p:Bool) (n:Nat) (s:St) (b:List UInt8),frz p (n+1) s (.str b)=some (.str b)) ∧
  (∀(p:Bool) (n:Nat) (s:St) (cs:List D),frz p (n+1) s (.agg cs)=(cs.mapM (frz p n s)).map .agg)∧(∀(p:Bool) (n:Nat) (s:St) (cs:List D),frz p (n+1) s (.tup cs)=(cs.mapM (frz p n s)).map .tup) ∧
  (∀(p:Bool) (n:Nat) (s:St),frz p (n+1) s .nils=some .nils)∧(∀(p:Bool) (n:Nat) (s:St),frz p (n+1) s .nilp=some .nilp)∧(∀(n:Nat) (s:St) (cs:List D) (o:Nat),frz false (n+1) s (.iptr cs o)=some (.iptr cs o)) ∧
  (∀(n:Nat) (s:St) (e:Bool) (l:Nat) (cs:List D),frz false (n+1) s (.sl e l cs)=some (.sl e l cs)) ∧
  (∀(p:Bool) (n:Nat) (s:St) (f:Fn) (a b:List D),frz p (n+1) s (.fn f a b)=(a.mapM (frz p n s)).bind fun a=>(b.mapM (frz p n s)).map fun b=>.fn f a b) ∧
  (∀(p:Bool) (n:Nat) (s:St) (nm off:Nat),frz p (n+1) s (.ptr nm off)=(match sget s nm with
   | some (.fix _ cs)=>(cs.mapM (frz p n s)).map fun cs=>.iptr cs off
   | _=>none)):=by
 refine⟨fun _ _ _ _=>rfl,fun _=>rfl,fun f a l=>?_,fun _ _ _ _ _=>rfl,fun _ _ _ _=>rfl,fun _ _ _ _=>rfl,fun _ _ _ _=>rfl,fun _ _ _ _=>rfl,fun _ _ _=>rfl,fun _ _ _=>rfl,fun _ _ _ _=>rfl,fun _ _ _ _ _=>rfl,fun p n s f a b=>?_,fun _ _ _ _ _=>rfl⟩
 ·simp only[List.mapM_cons,aB,Option.pure_def];cases f a with
  | none=>rfl
  | some b=>simp only[aO];cases l.mapM f<;>rfl
 ·simp only[frz,aB];cases a.mapM (frz p n s) with
  | none=>rfl
  | some q=>simp only[aO];cases b.mapM (frz p n s)<;>rfl
theorem ex_opt:(∀(h:Decidable True),@decide True h=true)∧(∀(h:Decidable False),@decide False h=false)∧(∀(α β:Type) (f:α→β) (a:α),(some a).map f=some (f a))∧(∀(α β:Type) (f:α→β),(none:Option α).map f=none)∧(∀(α β:Type) (f:α→Option β) (a:α),(some a).bind f=f a)∧(∀(α β:Type) (f:α→Option β),(none:Option α).bind f=none) ∧
  (∀(α β:Type) (x:Option α) (f:α→Option β),(x >>= f)=x.bind f)∧(∀(α:Type) (x y:α),(bif true then x else y)=x)∧(∀(α:Type) (x y:α),(bif false then x else y)=y) ∧
  ((!true)=false)∧((!false)=true)∧(∀b,(true||b)=true)∧(∀b,(false||b)=b)∧(∀b,(b||true)=true)∧(∀b,(b||false)=b)∧(∀b,(true&&b)=b)∧(∀b,(false&&b)=false)∧(∀b,(b&&true)=b)∧(∀b,(b&&false)=false):=by
 refine⟨fun _=>bD trivial,fun _=>aK id,fun _ _ _ _=>rfl,fun _ _ _=>rfl,fun _ _ _ _=>rfl,fun _ _ _=>rfl,fun _ _ _ _=>rfl,fun _ _ _=>rfl,fun _ _ _=>rfl,rfl,rfl,fun b=>?_,fun b=>?_,fun b=>?_,fun b=>?_,fun b=>?_,fun b=>?_,fun b=>?_,fun b=>?_⟩<;>cases b<;>rfl
theorem ex_lst:(∀(a:D) (l:List D),(a::l).length=l.length+1)∧(([]:List D).length=0)∧(∀(a v:D) (l:List D),(a::l).set 0 v=v::l)∧(∀(a v:D) (l:List D) (n:Nat),(a::l).set (n+1) v=a::l.set n v) ∧
  (∀(a:D) (l:List D),(a::l)[0]?=some a)∧(∀(a:D) (l:List D) (n:Nat),(a::l)[n+1]?=l[n]?)∧(∀(n:Nat),([]:List D)[n]?=none)∧(∀(a:D) (l:List D),(a::l).any eU=(eU a||l.any eU))∧(([]:List D).any eU=false) ∧
  (∀(l:List D),l.drop 0=l)∧(∀(a:D) (l:List D) (n:Nat),(a::l).drop (n+1)=l.drop n)∧(∀(l:List D),l.take 0=[])∧(∀(a:D) (l:List D) (n:Nat),(a::l).take (n+1)=a::l.take n)∧(∀(n:Nat),([]:List D).take n=[])∧(∀(n:Nat),([]:List D).drop n=[]) ∧
  (∀(cs:List D) (off n:Nat),dE cs off (some n)=bif Nat.ble (off+n) cs.length then some (.agg ((cs.drop off).take n)) else none) ∧
  (∀(G:List (Nat×List D)) (t:Tm),parts G t []=[])∧(∀(G:List (Nat×List D)) (t:Tm) (o n:Nat) (a:Arg) (l:List (Nat×Nat×Arg)),parts G t ((o,n,a)::l)=(o,n,a.ev G t)::parts G t l) ∧
  (∀(cs:List D),place cs []=some cs)∧(∀(cells:List D) (off n:Nat) (d:D) (r:List (Nat×Nat×D)),place cells ((off,n,d)::r)=(match d.cells? with
   | some cs=>bif Nat.beq cs.length n&&Nat.ble (off+n) cells.length then place (eS cells off cs) r else none
   | none=>none)) ∧
  (∀(ty off:Nat) (cs vs:List D),stB (.fix ty cs) off vs=bif vs.any eU then none else bif Nat.ble (off+vs.length) cs.length then some (.fix ty (eS cs off vs)) else none):=by
 refine⟨fun _ _=>rfl,rfl,fun _ _ _=>rfl,fun _ _ _ _=>rfl,fun _ _=>rfl,fun _ _ _=>rfl,fun _=>rfl,fun _ _=>rfl,rfl,fun _=>rfl,fun _ _ _=>rfl,fun _=>rfl,fun _ _ _=>rfl,fun _=>List.take_nil,fun _=>List.drop_nil,fun _ _ _=>rfl,fun _ _=>rfl,fun _ _ _ _ _ _=>rfl,fun _=>rfl,fun _ _ _ _ _=>rfl,fun _ _ _ _=>rfl⟩
theorem ex:type_of% eZ∧type_of% rX∧type_of% rW∧type_of% aE∧type_of% rJ∧type_of% ex_end∧type_of% ex_any∧type_of% ex_dat∧type_of% ex_str∧type_of% ex_gd∧type_of% ex_opt∧type_of% ex_lst∧type_of% @go1:=⟨eZ,rX,rW,aE,rJ,ex_end,ex_any,ex_dat,ex_str,ex_gd,ex_opt,ex_lst,@go1⟩
end Zv
namespace Zv.Ab
open Go Zv
def m(a b:Nat):cR:=⟨some a,.mv (.t b),none⟩
def l(a b:Nat):cR:=⟨some a,.ld none (.t b),none⟩
def u(a:Nat)(o:AOp):cR:=⟨some a,o,none⟩
def w(o:AOp):cR:=⟨none,o,none⟩
def my(a b g:Nat):cR:=⟨some a,.mv (.t b),some (g,true)⟩
def mn(a b g:Nat):cR:=⟨some a,.mv (.t b),some (g,false)⟩
def y(a g:Nat)(o:AOp):cR:=⟨some a,o,some (g,true)⟩
def n(a g:Nat)(o:AOp):cR:=⟨some a,o,some (g,false)⟩
def e(a k b:Nat):cR:=⟨some a,.ext k (.t b),none⟩
def f(a k b:Nat):cR:=⟨some a,.fa k (.t b),none⟩
def b(a:Nat)(o:BinOp)(x z:Nat):cR:=⟨some a,.bin o (.t x) (.t z),none⟩
def d(a:Nat)(o:BinOp)(x:Nat)(z:D):cR:=⟨some a,.bin o (.t x) (.c z),none⟩
def c(a:Nat)(z:D):cR:=⟨some a,.mv (.c z),none⟩
def s(x z:AC):AC:=.seq x z
def r(x:List cR):AC:=.reg none x
def i(x:Int):D:=.int .i64 x
def g(a k b:Nat):cR:=⟨some a,.ld (some k) (.t b),none⟩
def p(a x z:Nat):cR:=⟨some a,.pick (.t x) (.t z) (.c (.bool false)),none⟩
def q(a x z:Nat):cR:=⟨some a,.pick (.t x) (.c (.bool true)) (.t z),none⟩
def v(a f x:Nat):cR:=⟨some a,.call f [.t x],none⟩
def x(a f p q:Nat):cR:=⟨some a,.call f [.t p,.t q],none⟩
def z(a f p q r:Nat):cR:=⟨some a,.call f [.t p,.t q,.t r],none⟩
def j(a k x z:Nat):cR:=⟨some a,.iaS k (.t x) (.t z),none⟩
def k(a y x:Nat):cR:=⟨some a,.new y (.t x),none⟩
def o(a x:Nat):cR:=⟨some a,.len false (.t x),none⟩
def bF:D:=.bool false
def bT:D:=.bool true
theorem abq:(∀a b,m a b=⟨some a,.mv (.t b),none⟩)∧(∀a b,l a b=⟨some a,.ld none (.t b),none⟩)∧(∀a o,u a o=⟨some a,o,none⟩)∧(∀o,w o=⟨none,o,none⟩)∧(∀a b g,my a b g=⟨some a,.mv (.t b),some (g,true)⟩)∧(∀a b g,mn a b g=⟨some a,.mv (.t b),some (g,false)⟩)∧(∀a g o,y a g o=⟨some a,o,some (g,true)⟩)∧(∀a g o,n a g o=⟨some a,o,some (g,false)⟩) ∧
  (∀x,r x = .reg none x)∧(∀x,i x = .int .i64 x)∧(∀a k b,e a k b=⟨some a,.ext k (.t b),none⟩)∧(∀a k b,f a k b=⟨some a,.fa k (.t b),none⟩)∧(∀a o x z,b a o x z=⟨some a,.bin o (.t x) (.t z),none⟩)∧(∀a o x z,d a o x z=⟨some a,.bin o (.t x) (.c z),none⟩)∧(∀a z,c a z=⟨some a,.mv (.c z),none⟩)∧(∀x z,s x z = .seq x z)∧(∀a k b,g a k b=⟨some a,.ld (some k) (.t b),none⟩)∧(∀a x z,p a x z=⟨some a,.pick (.t x) (.t z) (.c (.bool false)),none⟩)∧(∀a x z,q a x z=⟨some a,.pick (.t x) (.c (.bool true)) (.t z),none⟩)∧(∀a f y,v a f y=⟨some a,.call f [.t y],none⟩)∧(∀a f y y',x a f y y'=⟨some a,.call f [.t y,.t y'],none⟩)∧(∀a f y y' y'',z a f y y' y''=⟨some a,.call f [.t y,.t y',.t y''],none⟩)∧(∀a k x z,j a k x z=⟨some a,.iaS k (.t x) (.t z),none⟩)∧(∀a y x,k a y x=⟨some a,.new y (.t x),none⟩)∧(∀a x,o a x=⟨some a,.len false (.t x),none⟩)∧bF = .bool false∧bT = .bool true:=
 ⟨fun _ _=>rfl,fun _ _=>rfl,fun _ _=>rfl,fun _=>rfl,fun _ _ _=>rfl,fun _ _ _=>rfl,fun _ _ _=>rfl,fun _ _ _=>rfl,fun _=>rfl,fun _=>rfl,fun _ _ _=>rfl,fun _ _ _=>rfl,fun _ _ _ _=>rfl,fun _ _ _ _=>rfl,fun _ _=>rfl,fun _ _=>rfl,fun _ _ _=>rfl,fun _ _ _=>rfl,fun _ _ _=>rfl,fun _ _ _=>rfl,fun _ _ _ _=>rfl,fun _ _ _ _ _=>rfl,fun _ _ _ _=>rfl,fun _ _ _=>rfl,fun _ _=>rfl,rfl,rfl⟩
end Zv.Ab
