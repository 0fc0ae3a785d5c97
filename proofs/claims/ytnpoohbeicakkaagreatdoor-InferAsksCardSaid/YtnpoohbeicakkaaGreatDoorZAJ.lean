/- From what a function comes to on values of the layer, to what a row says of it: the arguments are read az values of the layer; the function leaves all az it was. Conditions: none. -/
import Derived.Test.YtnpoohbeicakkaaGreatDoorZAI
import Derived.ReadAgain
import Derived.ChangeCalls
import Derived.RowKit
import Derived.WalkKit
import Derived.ProofKit
import Derived.Test.YtnpoohbeicakkaaGreatDoorProg
set_option linter.unusedVariables false
set_option linter.unusedSimpArgs false
namespace Zv
open Go Go.ChangeShapes Go.WideShapes Go.ChangeAt Go.RowKit
def argsOf(P:Program)(n:Nat):List TypeId→Option (List (Bool×List TY))
 | []=>some []
 | t::ts=>(tyOf P n t).bind fun l=>(argsOf P n ts).map fun r=>((match P.underlying t with|some (.struct _)|some (.array _ _)=>true|_=>false),l)::r
def AOk(a:Bool×List TY)(d:D):Prop:=match a.1 with
 | true=>∃ds,d = .agg ds∧TY.oks a.2 ds
 | false=>TY.oks a.2 [d]
def AOks:List (Bool×List TY)→List D→Prop
 | [],ds=>ds=[]
 | a::r,ds=>∃d Iv,ds=d::Iv∧AOk a d∧AOks r Iv
section
variable {H:Type} {enc:TypeId×Value→H} {P:Program} {w w':World} {base:Nat} {Hy:Nat→Bool} {Mr:Bool}
theorem not_agg{r:Reach}{b0:Nat}{t:TypeId}{m:Nat}{l:List TY}{v:Value}(ht:tyOf P m t=some l)
  (hn:(match P.underlying t with|some (.struct _)|some (.array _ _)=>true|_=>false)=false) (hv:Value.okWide P w r b0 t v):v.cells = #[v]:=by
 cases v<;>try rfl
 exfalso;cases m with
 | zero=>simp[tyOf]at ht
 | succ m=>
  unfold tyOf at ht;unfold Value.okWide Cell.okWide Cell.ok at hv
  grind
theorem args_in{r:Reach}{b0:Nat}{n:Nat}:∀{ts:List TypeId} {L:List (Bool×List TY)} {vs:List Value} {ds:List (DataW H)} {ps:List MemPlace},argsOf P n ts=some L →
  DataW.TrodAll enc P w base Hy Mr ts vs ds ps→(∀(j:Nat) t v,ts[j]?=some t→vs[j]?=some v→Value.okWide P w r b0 t v) →
  ∃az,bI NoM w mu0 az vs∧D.dps az=true∧AOks L az
 | [],L,vs,ds,ps,ht,h,hv=>by
  obtain⟨rfl,_,_⟩:=trodAll_nil h;simp only[argsOf,aD]at ht;subst ht;exact⟨[],by simp[bI],rfl,by simp[AOks]⟩
 | t::ts,L,vs,ds,ps,ht,h,hv=>by
  obtain⟨v,Ep,d,Iv,p,q,rfl,rfl,rfl,⟨fuel,h1⟩,h2⟩:=trodAll_cons h;simp only[argsOf,aB,aT]at ht;obtain⟨l,hl,L',hL,rfl⟩:=ht;obtain⟨az,Ue,ha2,ha3⟩:=args_in hL h2 (fun j t v h3 h4=>hv (j+1) t v (by simpa using h3) (by simpa using h4))
  obtain⟨cs,Dt,El,Sq⟩:∃cs,pS w l v.cells.toList cs:=⟨_,xU n fuel t l _ _ h1 hl⟩
  have Qe:=hv 0 t v rfl rfl;cases hb:(match P.underlying t with|some (.struct _)|some (.array _ _)=>true|_=>false) with
  | false=>
   rw[not_agg hl hb Qe]at Dt;cases cs with
   | nil=>grind [bI]
   | cons c cs=>
    simp only[bI]at Dt;obtain⟨v',r',he,hc,hr⟩:=Dt;cases he;cases cs with
    | cons _ _=>simp[bI]at hr
    | nil=>
     simp only[D.dps,Bool.and_true]at El;refine⟨c::az,by grind [bI],by grind [D.dps],?_⟩
     grind [AOks,AOk]
  | true=>
   have Lf:∃xs,v = .agg xs:=by
    unfold Value.okWide at Qe;split at hb
    ·rename_i e;rw[e]at Qe;obtain⟨xs,e',_⟩:=Qe;exact⟨xs,e'⟩
    ·rename_i e;rw[e]at Qe;obtain⟨xs,e',_⟩:=Qe;exact⟨xs,e'⟩
    ·cases hb
   obtain⟨xs,rfl⟩:=Lf;simp only[Value.cells]at Dt;refine⟨.agg cs::az,?_,by grind [D.dps,D.dp],?_⟩
   all_goals grind [bI,aY,AOks,AOk]
theorem yG{m:Nat}{n:String}{d:DataW Unit}{g:Nat}{t:TypeId}{l:List TY}(hg:P.globalNamed n=some g)(ht:(P.globals[g]?).map (·.type)=some t)(hl:tyOf P m t=some l):
  ∀{laid:List (String×DataW Unit)} {ps:List MemPlace},DataW.LaidVars P w laid ps→(n,d)∈laid→g<w.heap.size∧iK NoM w g 0 (dOf d)
 | [],ps,h,hm=>by cases hm
 | (n',d')::r,ps,h,hm=>by
  obtain⟨g',t',cs,fuel,p,q,h1,h2,h3,h4,h5,_⟩:=h;rcases cH.1 hm with e|hm
  ·cases e;rw[hg]at h1;cases h1;rw[ht]at h2;cases h2;have hr:=(xU m fuel t l _ _ h4 hl).1
   grind [World.var?,Array.getElem?_eq_some_iff,iK.mk,bI.nth,World.cell?]
  ·exact yG hg ht hl h5 hm
theorem laid_of{laid:List (String×DataW Unit)}(hf:(laid.filter fun x=>x.2.handleName?.isSome)=[])(h:laidMetH P laid w):∃ps,DataW.LaidVars P w laid ps:=by
 unfold laidMetH at h;rw[hf]at h;obtain⟨ps,h,_⟩:=h
 grind
theorem vK:∀{ts:List TypeId} {vs:List Value} {ds:List (DataW H)} {ps:List MemPlace},DataW.TrodAll enc P w base Hy Mr ts vs ds ps →
  (∀p∈ps,w.sameAt w' p)→DataW.TrodAll enc P w' base Hy Mr ts vs ds ps
 | [],vs,ds,ps,h,hs=>by
  obtain⟨rfl,rfl,rfl⟩:=trodAll_nil h;exact rfl
 | t::ts,vs,ds,ps,h,hs=>by
  obtain⟨v,Ep,d,Iv,p,q,rfl,rfl,rfl,⟨fuel,h1⟩,h2⟩:=trodAll_cons h;exact trodAll_cons_mk ⟨fuel,DataW.trod_carry fuel _ _ _ h1 fun p hp=>hs p (by grind)⟩ (vK h2 fun p hp=>hs p (by simp[hp]))
theorem same_of{p:MemPlace}(hb:w'.heap[p.block]?=w.heap[p.block]?):w.sameAt w' p:=by
 cases p with
 | cell b o=>grind [MemPlace.block,World.sameAt,World.cell?]
 | map b=>exact hb
theorem row_true{E:Env}{f:FuncId}{fn:Func}{s:ChangeSpec}{W:World}{args:Array Value}{ds gs:List (DataW H)}{before:List MemPlace}{az:List D}{t:TypeId}{apart fresh Xu:Bool}{Wf:Bool}
  (K:Kids E.P (· < E.P.types.size)) (hz:∀t e,t<E.P.types.size→E.P.underlying t=some (.slice e)→0<E.P.cellsOf e) (hT:∀t∈fn.params.toList,t<E.P.types.size)
  (Lv:s.vars=[]) (Dz:∀(d0:List (DataW H)),d0.length=fn.params.size→s.fn H d0={ results:=[.lit (.bool true)],args:=d0 })
  (Ba:fn.resultTypes = #[t]) (hu:E.P.underlying t=some .bool)
  (hW:DataW.Whole enc E.P fn.params.toList s.vars apart W args.toList ds gs before)
  (hp:zJ E f az (.bool true)) (hG:GRel E NoM W) (hv:bI NoM W mu0 az args.toList) :
  Calls E.P f args W fun e W'=>∃v,e = .returned v∧s.post enc E.P fn apart fresh Wf Xu W args v W':=by
 have Ry:=hp NoM W args.toList (fun b hb=>hb.elim) hG hv
 refine Ry.mono ?_;rintro e W' ⟨v,rfl,hr,Ae,Ea,Cv⟩;simp only[aY]at hr;subst hr;have zQ:=hW.lt;have hW0:=hW;obtain⟨p,q,hA,hV,Sr,Bi,Es⟩:=hW;rw[Lv]at hV;obtain⟨rfl,rfl⟩:=trodVars_none hV;rw[dG]at Sr;subst Sr;have zU:=(trodAll_length hA).2;simp only[gZ]at zU;have Va:=Dz (ds++[]) (by grind)
 have Ar:∀p∈before,W.sameAt W' p:=fun p hp=>same_of (Cv _ (zQ p hp))
 have Dv:=vK hA Ar;have hAs:∀sp:Nat→Bool,(∀p∈before,sp p.block=true)→DataW.TrodAll enc E.P W' 0 sp true fn.params.toList args.toList ds before:=
  fun sp Tu=>DataW.TrodAll.respare K hz hT Dv Tu
 have It:∀(b:Nat) (sp:Nat→Bool) (hd:Bool),DataW.TrodAll enc E.P W' b sp hd fn.resultTypes.toList ((Value.bool true).resultList fn.resultTypes.size) [.lit (.bool true)] []:=fun b sp hd=>by
  rw[Ba];exact trodAll_mk1 (shut_bool hu true)
 refine⟨_,rfl,ds,[],before,[],before,[],hW0,?_,?_,?_,?_,?_⟩
 ·grind
 ·grind
 ·rw[Va,Lv];exact rfl
 ·refine⟨Ea.1,Ea.2,fun i hi=>?_⟩
  grind
 ·intro _;refine⟨ok_one Ba rfl (okWide_bool_mk hu true),[.lit (.bool true)]++ds,[],[]++before,⟨[]++before,[],trodAll_append (hAs _ fun _ _=>rfl) (It _ _ _),?_,by simp,?_,?_⟩,?_⟩
  ·rw[Lv];exact rfl
  ·intro b off hb;have Ad:MemPlace.cell b off∈before:=by simpa using hb
   have:=Bi b off Ad;simp only[World.frozen?,Cv b (zQ _ Ad)]at this ⊢;exact this
  ·intro ha;simpa using Es ha
  ·intro p hp _;simpa using hp
end
end Zv
namespace Zv
open Go
variable {w n i:Nat} {rows:List (List D)} {d:D} {k:IntKind}
/-! Slices that came in. -/
def jE(w:Nat)(rows:List (List D))(d:D):Prop:=(∀r∈rows,r.length=w)∧((d = .nils∧rows=[])∨∃ex,d = .sl ex rows.length rows.flatten)
theorem jE.lenD(h:jE w rows d):lenD false d=some rows.length:=by
 rcases h.2 with⟨rfl,rfl⟩|⟨ex,rfl⟩<;>rfl
theorem lE{w:Nat}:∀{rows:List (List D)} {i:Nat} {r:List D},(∀r∈rows,r.length=w)→rows[i]?=some r→(rows.flatten.drop (i*w)).take w=r∧i*w+w≤rows.flatten.length
 | [],i,r,h,hr=>by simp at hr
 | x::rows,0,r,h,hr=>by
  grind
 | x::rows,i+1,r,h,hr=>by
  have hx:=h x (by simp)
  obtain⟨h1,h2⟩:=lE (w:=w) (i:=i) (fun r hr=>h r (by simp[hr])) (show rows[i]?=some r by simpa using hr)
  refine⟨?_,?_⟩
  ·rw[dO,Nat.add_mul,Nat.one_mul,Nat.add_comm,←List.drop_drop];rw[show(x++rows.flatten).drop w=rows.flatten by rw[←hx];simp]
   exact h1
  grind
theorem fB(h:i<n):iF n (.int k (i:Int))=some i:=by
 grind [iF,cQ]
theorem jE.ia(h:jE w rows d)(hi:i<rows.length):iJ w d (.int k (i:Int))=some (.iptr rows.flatten (i*w)):=by
 rcases h.2 with⟨rfl,rfl⟩|⟨ex,rfl⟩
 all_goals grind [iJ,fB]
theorem jE.row(h:jE w rows d)(hi:i<rows.length):cX rows.flatten (i*w) (some w)=some (.agg rows[i]):=by
 obtain⟨h1,h2⟩:=lE h.1 (aI hi)
 grind [cX,bO]
theorem jE.cell(h:jE w rows d)(hi:i<rows.length){o:Nat}(ho:o<w):rows.flatten[i*w+o]?=rows[i][o]?:=by
 obtain⟨h1,h2⟩:=lE h.1 (aI hi)
 grind
theorem jE.cell0(h:jE w rows d)(hi:i<rows.length)(ho:0<w):rows.flatten[i*w]?=rows[i][0]?:=h.cell hi ho
theorem jE.ble(h:jE w rows d)(hi:i<rows.length):i*w+w≤rows.flatten.length:=(lE h.1 (aI hi)).2
theorem jE.tk(h:jE w rows d)(hi:i<rows.length):(rows.flatten.drop (i*w)).take w=rows[i]:=(lE h.1 (aI hi)).1
theorem jE.nag(h:jE w rows d):eG d=false:=by
 rcases h.2 with⟨rfl,rfl⟩|⟨ex,rfl⟩<;>rfl
theorem jE.fz(h:jE w rows d)(n:Nat)(s:St):frz false (n+1) s d=some d:=by
 rcases h.2 with⟨rfl,rfl⟩|⟨ex,rfl⟩<;>rfl
theorem jE.pure(h:jE w rows d):d.pure=true:=by
 rcases h.2 with⟨rfl,rfl⟩|⟨ex,rfl⟩<;>rfl
theorem jE.cellsq(h:jE w rows d):d.cells?=some [d]:=by
 rcases h.2 with⟨rfl,rfl⟩|⟨ex,rfl⟩<;>rfl
theorem tY{w:Nat}:∀{rows:List (List D)},(∀r∈rows,r.length=w)→rows.flatten.length=rows.length*w
 | [],h=>by simp
 | x::rows,h=>by
  rw[dO,dZ,h x (by simp),tY (fun r hr=>h r (by simp[hr])),aO,Nat.add_mul,Nat.one_mul,Nat.add_comm]
theorem xH{w:Nat}:∀{rows:List (List D)} {i:Nat},(∀r∈rows,r.length=w)→i≤rows.length→rows.flatten.take (i*w)=(rows.take i).flatten
 | rows,0,h,hi=>by simp
 | [],i+1,h,hi=>by simp at hi
 | x::rows,i+1,h,hi=>by
  have hx:=h x (by simp)
  rw[dO,List.take_succ_cons,dO,Nat.add_mul,Nat.one_mul,Nat.add_comm,←hx,List.take_length_add_append,hx,
   xH (fun r hr=>h r (by simp[hr])) (by simpa using hi)]
theorem yP{w:Nat}:∀{rows:List (List D)} {i:Nat},(∀r∈rows,r.length=w)→i≤rows.length→rows.flatten.drop (i*w)=(rows.drop i).flatten
 | rows,0,h,hi=>by simp
 | [],i+1,h,hi=>by simp at hi
 | x::rows,i+1,h,hi=>by
  have hx:=h x (by simp)
  rw[dO,List.drop_succ_cons,Nat.add_mul,Nat.one_mul,Nat.add_comm,←hx,←List.drop_drop,List.drop_left,hx,
   yP (fun r hr=>h r (by simp[hr])) (by simpa using hi)]
theorem lF(h:i≤n):vH n (.int k (i:Int))=some i:=by
 grind [vH,cQ]
theorem jE.part(h:jE w rows d){j:Nat}(Sg:i≤j)(hj:j≤rows.length){k':IntKind}:
  ∃d',pX w d (some (.int k (i:Int))) (some (.int k' (j:Int))) none=some d'∧jE w ((rows.take j).drop i) d':=by
 rcases h.2 with⟨rfl,rfl⟩|⟨ex,rfl⟩
 ·simp only[aX,Nat.le_zero]at hj
  grind [pX,gH,aC,lF,jE]
 ·refine⟨_,?_,fun r hr=>h.1 r (eH (List.mem_of_mem_drop hr)),.inr ⟨ex&&Nat.beq j rows.length,rfl⟩⟩
  have h1:Nat.ble (j*w) rows.flatten.length=true:=by
   rw[tY h.1];exact bO (Nat.mul_le_mul_right w hj)
  simp only[pX,gH,lF Sg,lF hj,aC,bE,Option.isSome_none,Bool.false_and,cB,Bool.true_and,Bool.false_or,h1,bG,gP,eI,Nat.min_eq_left hj];have e:((rows.take j).drop i).flatten=(rows.flatten.drop (i*w)).take ((j-i)*w):=by
   rw[←yP (w:=w) (fun r hr=>h.1 r (eH hr)) (by grind),←xH h.1 hj,List.drop_take,Nat.sub_mul]
  rw[e]
theorem slVD_lo(h:lenD false d=some n)(hd:d.pure=true)(l:Option D):pX w d l none none=pX w d l (some (.int .i64 (n:Int))) none:=by
 cases d<;>simp only[lenD,aD,reduceCtorEq]at h<;>simp only[D.pure,reduceCtorEq,cT]at hd
 all_goals grind [pX,gH,aC,lF]
theorem slVD_hi(hd:d.pure=true)(h:Option D):pX w d none h none=pX w d (some (.int .i64 (0:Nat))) h none:=by
 cases d<;>simp only[D.pure,reduceCtorEq,cT]at hd<;>simp only[pX,gH,lF (dM _)]
theorem jE.head(h:jE w rows d){j:Nat}(hj:j≤rows.length):
  ∃d',pX w d none (some (.int k (j:Int))) none=some d'∧jE w (rows.take j) d':=by
 obtain⟨d',h1,h2⟩:=h.part (dM j) hj (k:=.i64) (k':=k);exact⟨d',by rw[slVD_hi h.pure];exact h1,h2⟩
theorem jE.tail(h:jE w rows d)(hi:i≤rows.length):
  ∃d',pX w d (some (.int k (i:Int))) none none=some d'∧jE w (rows.drop i) d':=by
 obtain⟨d',h1,h2⟩:=h.part hi (aK _) (k:=k) (k':=.i64);exact⟨d',by rw[slVD_lo h.lenD h.pure];exact h1,by grind⟩
/-! Slices whose rows stand for typed values. -/
def Sl{α:Type}(w:Nat)(e:α→List D)(l:List α)(d:D):Prop:=jE w (l.map e) d
section
variable {α:Type} {w:Nat} {e:α→List D} {l:List α} {d:D} (h:Sl w e l d)
variable {i:Nat} {k:IntKind}
include h
theorem Sl.len:lenD false d=some l.length:=by have:=jE.lenD h;rwa [dB]at this
theorem Sl.ia(hi:i<l.length):iJ w d (.int k (i:Int))=some (.iptr (l.map e).flatten (i*w)):=jE.ia h (by simpa using hi)
theorem Sl.cell(hi:i<l.length){o:Nat}(ho:o<w):(l.map e).flatten[i*w+o]?=(e l[i])[o]?:=by
 have:=jE.cell h (i:=i) (by simpa using hi) ho
 rwa [List.getElem_map]at this
theorem Sl.cell0(hi:i<l.length)(ho:0<w):(l.map e).flatten[i*w]?=(e l[i])[0]?:=Sl.cell h hi ho
theorem Sl.row(hi:i<l.length):cX (l.map e).flatten (i*w) (some w)=some (.agg (e l[i])):=by
 have:=jE.row h (i:=i) (by simpa using hi)
 rwa [List.getElem_map]at this
theorem Sl.fz(n:Nat)(s:St):frz false (n+1) s d=some d:=jE.fz h n s
theorem Sl.pure:d.pure=true:=jE.pure h
theorem Sl.nag:eG d=false:=jE.nag h
theorem Sl.cellsq:d.cells?=some [d]:=jE.cellsq h
theorem Sl.head{j:Nat}(hj:j≤l.length):∃d',pX w d none (some (.int k (j:Int))) none=some d'∧Sl w e (l.take j) d':=by
 obtain⟨d',h1,h2⟩:=jE.head h (j:=j) (by simpa using hj) (k:=k)
 exact⟨d',h1,by rwa [←List.map_take]at h2⟩
theorem Sl.tail(hi:i≤l.length):∃d',pX w d (some (.int k (i:Int))) none none=some d'∧Sl w e (l.drop i) d':=by
 obtain⟨d',h1,h2⟩:=jE.tail h (i:=i) (by simpa using hi) (k:=k)
 exact⟨d',h1,by rwa [←List.map_drop]at h2⟩
theorem Sl.part{j:Nat}(Sg:i≤j)(hj:j≤l.length){k':IntKind}:∃d',pX w d (some (.int k (i:Int))) (some (.int k' (j:Int))) none=some d'∧Sl w e ((l.take j).drop i) d':=by
 obtain⟨d',h1,h2⟩:=jE.part h Sg (by simpa using hj) (k:=k) (k':=k')
 exact⟨d',h1,by rwa [←List.map_take,←List.map_drop]at h2⟩
end
variable {Q:R→Prop}
theorem Sl.ia1{α:Type}{e:α→List D}{l:List α}{d:D}(h:Sl 1 e l d){i:Nat}(hi:i<l.length){k:IntKind}:iJ 1 d (.int k (i:Int))=some (.iptr (l.map e).flatten i):=by rw[h.ia hi,dS]
theorem Sl.at1{α:Type}{e:α→List D}{l:List α}{d:D}(h:Sl 1 e l d){i:Nat}(hi:i<l.length):(l.map e).flatten[i]?=(e l[i])[0]?:=by have:=h.cell0 hi Nat.one_pos;rwa [dS]at this
theorem xL(args:List D)(s:St)(c:Nat):start args s c=⟨iW 0 args tm0,s,c,[],none⟩:=rfl
/-! Loops. -/
@[elab_as_elim] theorem zloop_any (rl:R){k:Nat}{f:AS→R}{x:AS}(hl:zloop k f x=rl)(n:Nat)(hk:n<k)(I:Nat→AS→Prop)(h0:I 0 x) 
  (hs:∀i x,i≤n→I i x→(∃y,f x = .ok .normal y∧i<n∧I (i+1) y)∨(Q (f x)∧∀y,f x≠.ok .normal y)):Q rl:=by
 have Hj:∀m i k x,i+m=n→m<k→I i x→Q (zloop k f x):=by
  intro m
  induction m with
  | zero=>
   intro i k x hi hk hI;obtain⟨k,rfl⟩:∃j,k=j+1:=⟨k-1,by omega⟩
   show Q (zbind (f x) (zloop k f));rcases hs i x (by omega) hI with⟨y,hy,zQ,_⟩|⟨hq,hn⟩
   ·omega
   ·cases hf:f x with
    | no=>rw[hf]at hq;exact hq
    | ok o y=>cases o with
     | normal=>grind
     | _=>rw[hf]at hq;exact hq
  | succ m ih=>
   intro i k x hi hk hI;obtain⟨k,rfl⟩:∃j,k=j+1:=⟨k-1,by omega⟩
   show Q (zbind (f x) (zloop k f));rcases hs i x (by omega) hI with⟨y,hy,zQ,hI'⟩|⟨hq,hn⟩
   ·rw[hy];exact ih (i+1) k y (by omega) (by omega) hI'
   ·cases hf:f x with
    | no=>rw[hf]at hq;exact hq
    | ok o y=>cases o with
     | normal=>grind
     | _=>rw[hf]at hq;exact hq
 grind
def Go1(Q:R→Prop)(N:AS→Prop)(r:R):Prop:=match r with
 | .ok .normal z=>N z
 | .ok o z=>Q (.ok o z)
 | .no=>False
theorem go1{Q:R→Prop}{N:AS→Prop}:(∀z,Go1 Q N (.ok .normal z)=N z)∧(∀i z,Go1 Q N (.ok (.exit i) z)=Q (.ok (.exit i) z))∧(∀z,Go1 Q N (.ok .ret z)=Q (.ok .ret z))∧(∀c z,Go1 Q N (.ok (.pan c) z)=Q (.ok (.pan c) z)):=
 ⟨fun _=>rfl,fun _ _=>rfl,fun _=>rfl,fun _ _=>rfl⟩
@[elab_as_elim] theorem zwhile (rl:R){k:Nat}{f:AS→R}{x:AS}(hz:zloop k f x=rl)(n:Nat)(hk:n<k)(I:Nat→AS→Prop)(h0:I 0 x) 
  (hs:∀i x,i≤n→I i x→Go1 Q (fun z=>i<n∧I (i+1) z) (f x)):Q rl:=
 zloop_any rl hz n hk I h0 fun i x hi hI=>by
  have h:=hs i x hi hI;cases hf:f x with
  | no=>rw[hf]at h;exact h.elim
  | ok o y=>
   rw[hf]at h;cases o with
   | normal=>exact .inl ⟨y,rfl,h⟩
   | exit i=>exact .inr ⟨h,fun y h=>by cases h⟩
   | ret=>exact .inr ⟨h,fun y h=>by cases h⟩
   | pan c=>exact .inr ⟨h,fun y h=>by cases h⟩
theorem cL{n:Int}(h : -9223372036854775808≤n)(h':n<9223372036854775808):bX .i64 n=n:=kW (by grind [loK]) (by grind [hiK])
theorem gW{a:Nat}(h:a<9223372036854775807):bX .i64 ((a:Int)+1)=((a+1:Nat):Int):=by grind [cL]
@[elab_as_elim] theorem zrange (rl:R){cx:Cx}{cl:CL}{k ti tn tc tj id Jz:Nat}{body:AC}{t0:Tm}{s0:St}{c0:Nat}{d:List (D×List D)}{r:Option Nat} 
  (hz:zloop k (zC (.seq (.reg none [⟨some tc,.bin .lss (.t ti) (.t tn),none⟩]) (.seq (.cond (.t tc) .skip (.exit id)) (.seq (.block Jz body) (.reg none [⟨some tj,.bin .add (.t ti) (.c (.int .i64 1)),none⟩,⟨some ti,.mv (.t tj),none⟩])))) cx cl k)
   ⟨t0,s0,c0,d,r⟩=rl)
  (n:Nat) (hk:n<k) (Dd:n<9223372036854775807) (I:Nat→Tm→St→Nat→Prop) (An:ti≠tc∧tn≠tc)
  (hi:tget t0 ti = .int .i64 0) (hn:tget t0 tn = .int .i64 n) (h0:I 0 t0 s0 c0)
  (hs:∀i t s c,i<n→I i t s c→tget t ti = .int .i64 i→tget t tn = .int .i64 n →
   Go1 Q (fun z=>z.d=d∧z.r=r∧tget z.t ti = .int .i64 i∧(tn=ti∨tn=tj∨tget z.t tn = .int .i64 n)∧tn≠ti∧tn≠tj∧I (i+1) (tput (tput z.t tj (.int .i64 (i+1:Nat))) ti (.int .i64 (i+1:Nat))) z.s z.c)
    (lL Jz (zC body cx cl k ⟨tput t tc (.bool true),s,c,d,r⟩)))
  (he:∀t s c,I n t s c→tget t ti = .int .i64 n→tget t tn = .int .i64 n→Q (.ok (.exit id) ⟨tput t tc (.bool false),s,c,d,r⟩)):Q rl:=by
 refine zloop_any rl hz n hk (fun i x=>∃t s c,x=⟨t,s,c,d,r⟩∧tget t ti = .int .i64 i∧tget t tn = .int .i64 n∧I i t s c) ⟨t0,s0,c0,rfl,hi,hn,h0⟩ ?_
 rintro i x Bs ⟨t,s,c,rfl,h1,h2,h3⟩;simp only[fU,sC,sB,aA,rQ,h1,h2,↓reduceIte,bR,Int.ofNat_lt];by_cases zQ:i<n
 ·have hg:=hs i t s c zQ h3 h1 h2;simp only[zQ,aQ,fU];cases hb:lL Jz (zC body cx cl k ⟨tput t tc (.bool true),s,c,d,r⟩) with
  | no=>rw[hb]at hg;exact hg.elim
  | ok o z=>
   rw[hb]at hg;cases o with
   | normal=>
    obtain⟨g1,g2,g3,g4,g5,g6,g7⟩:=hg
    left
    obtain⟨zt,zs,zc,zd,zr⟩:=z;simp only at g1 g2 g3 g4 g7;subst g1 g2;have g4':tget zt tn = .int .i64 n:=by
     rcases g4 with e|e|e
     ·omega
     ·omega
     ·exact e
    simp only[fU,sC,sB,aA,rQ,g3,bR,gW (show i<9223372036854775807 by omega),↓reduceIte]
    grind [nB]
   | exit j=>right;exact⟨hg,fun y h=>by simp only[fU]at h;cases h⟩
   | ret=>right;exact⟨hg,fun y h=>by simp only[fU]at h;cases h⟩
   | pan ch=>right;exact⟨hg,fun y h=>by simp only[fU]at h;cases h⟩
 ·have e:i=n:=by omega
  subst e
  right
  simp only[zQ,aP,fU]
  grind
theorem ex_dat:(∀(cs:List D) (off:Nat),cX cs off none=cs[off]?)∧(∀(s:St) (cs:List D) (off:Nat),seen s (.iptr cs off)=some (cs,off)) ∧
  (∀(s:St) (nm off:Nat),seen s (.ptr nm off)=(sget s nm).bind fun b=>(eR b).map fun cs=>(cs,off))∧(∀(ty:Nat) (cs:List D),eR (.fix ty cs)=some cs)∧(∀(ty:Nat) (cs:List D),eR (.grow ty cs)=some cs) ∧
  (∀(k:IntKind) (i:Int),(D.int k i).cells?=some [.int k i])∧(∀(b:Bool),(D.bool b).cells?=some [.bool b])∧(∀(b:List UInt8),(D.str b).cells?=some [.str b])∧(∀(cs:List D),(D.agg cs).cells?=some cs)∧(D.nils.cells?=some [.nils]) ∧
  (∀(a b c d e:Nat),(D.ms a b c d e).cells?=some [.ms a b c d e])∧(∀(a b c d:Nat),(D.gs a b c d).cells?=some [.gs a b c d])∧(∀(a b:Nat),(D.ptr a b).cells?=some [.ptr a b])∧(∀(a:Nat),(D.mp a).cells?=some [.mp a]) ∧
  (∀(off:Nat) (cs:List D),fJ cs off ([]:List D)=cs)∧(∀(off:Nat) (cs:List D) (v:D) (vs:List D),fJ cs off (v::vs)=fJ (cs.set off v) (off+1) vs) ∧
  (∀(a b:Nat),Nat.ble a b=decide (a≤b))∧(∀(a b:Nat),Nat.beq a b=decide (a=b)) ∧
  (∀(k:IntKind) (i:Int),eG (.int k i)=false)∧(∀(b:Bool),eG (.bool b)=false)∧(∀(b:List UInt8),eG (.str b)=false)∧(eG .nils=false)∧(∀(a b c d e:Nat),eG (.ms a b c d e)=false)∧(∀(a b c d:Nat),eG (.gs a b c d)=false)∧(∀(a b:Nat),eG (.ptr a b)=false)∧(∀(a:Nat),eG (.mp a)=false):=by
 refine⟨fun _ _=>rfl,fun _ _ _=>rfl,fun s nm off=>?_,fun _ _=>rfl,fun _ _=>rfl,fun _ _=>rfl,fun _=>rfl,fun _=>rfl,fun _=>rfl,rfl,fun _ _ _ _ _=>rfl,fun _ _ _ _=>rfl,fun _ _=>rfl,fun _=>rfl,fun _ _=>by simp[fJ],fun _ _ _ _=>rfl,
  fun a b=>?_,fun a b=>?_,fun _ _=>rfl,fun _=>rfl,fun _=>rfl,rfl,fun _ _ _ _ _=>rfl,fun _ _ _ _=>rfl,fun _ _=>rfl,fun _=>rfl⟩
 ·simp only[seen,aC];cases sget s nm with
  | none=>rfl
  | some b=>simp only[bE];cases eR b<;>rfl
 all_goals grind [Nat.ble_eq,Nat.beq_eq]
theorem ex_str:(∀(x y:List UInt8),kN .eql (.str x) (.str y)=some (.bool (decide (x=y))))∧(∀(x y:List UInt8),kN .neq (.str x) (.str y)=some (.bool (!decide (x=y))))∧(∀(s:List UInt8),lenD true (.str s)=some s.length) ∧
  (∀(b:Bool),unD .not (.bool b)=some (.bool (!b)))∧(∀(k:IntKind) (n:Int),unD .neg (.int k n)=some (.int k (bX k (0-n))))∧(∀(G:List (Nat×List D)) (t:Tm) (n:Nat),(Arg.g n).ev G t=(match lget G n with|some l=>.iptr l 0|none=>.un)) ∧
  (∀(a:D),zH a=[a])∧(∀(o:Option D),undD o=match o with|some d=>d|none=>.un):=by
 refine⟨fun x y=>?_,fun x y=>?_,fun _=>rfl,fun _=>rfl,fun _ _=>rfl,fun G t n=>?_,fun _=>rfl,fun o=>by cases o<;>rfl⟩
 ·show some (D.bool (x==y))=_
  grind
 ·show some (D.bool (!(x==y)))=_
  grind
 ·show(Option.rec D.un (fun l=>D.iptr l 0) (lget G n):D)=_
  cases lget G n<;>rfl
theorem ex_gd:(∀(cx:Cx) (cl:CL) (dst:Option Nat) (op:AOp) (g:Nat) (w:Bool) (r:List cR) (x:AS),lM cx cl (⟨dst,op,some (g,w)⟩::r) x=zgd (tget x.t g) w (zbind (zOp cx cl ⟨dst,op,some (g,w)⟩ x) (lM cx cl r)) (lM cx cl r ⟨iO dst x.t (.tup []),x.s,x.c,x.d,x.r⟩)):=
 zOps_g
theorem idxD_0{n:Nat}{k:IntKind}(h:0<n):iF n (.int k 0)=some 0:=fB (i:=0) h
theorem aJ:(∀(o:List D→Option (D×Bool)) (args:List D) (s:St) (c:Nat),pcall o args s c=(match args.mapM (frz false 20 s) with
   | some fa=>match o fa with
    | some p=>bif p.2||(p.1.flat||D.pures args) then .ok (.ret p.1) s c else .no
    | none=>.no
   | none=>.no)) ∧
  (∀(f:D→Option D),([]:List D).mapM f=some [])∧(∀(f:D→Option D) (a:D) (l:List D),(a::l).mapM f=(f a).bind fun b=>(l.mapM f).map fun r=>b::r) ∧
  (∀(p:Bool) (n:Nat) (s:St) (k:IntKind) (i:Int),frz p (n+1) s (.int k i)=some (.int k i))∧(∀(p:Bool) (n:Nat) (s:St) (b:Bool),frz p (n+1) s (.bool b)=some (.bool b))∧(∀(p:Bool) (n:Nat) (s:St) (b:List UInt8),frz p (n+1) s (.str b)=some (.str b)) ∧
  (∀(p:Bool) (n:Nat) (s:St) (cs:List D),frz p (n+1) s (.agg cs)=(cs.mapM (frz p n s)).map .agg)∧(∀(p:Bool) (n:Nat) (s:St) (cs:List D),frz p (n+1) s (.tup cs)=(cs.mapM (frz p n s)).map .tup) ∧
  (∀(p:Bool) (n:Nat) (s:St),frz p (n+1) s .nils=some .nils)∧(∀(p:Bool) (n:Nat) (s:St),frz p (n+1) s .nilp=some .nilp)∧(∀(n:Nat) (s:St) (cs:List D) (o:Nat),frz false (n+1) s (.iptr cs o)=some (.iptr cs o)) ∧
  (∀(n:Nat) (s:St) (e:Bool) (l:Nat) (cs:List D),frz false (n+1) s (.sl e l cs)=some (.sl e l cs)) ∧
  (∀(p:Bool) (n:Nat) (s:St) (f:Fn) (a b:List D),frz p (n+1) s (.fn f a b)=(a.mapM (frz p n s)).bind fun a=>(b.mapM (frz p n s)).map fun b=>.fn f a b) ∧
  (∀(p:Bool) (n:Nat) (s:St) (nm off:Nat),frz p (n+1) s (.ptr nm off)=(match sget s nm with
   | some (.fix _ cs)=>(cs.mapM (frz p n s)).map fun cs=>.iptr cs off
   | _=>none)):=by
 refine⟨fun _ _ _ _=>rfl,fun _=>rfl,fun f a l=>?_,fun _ _ _ _ _=>rfl,fun _ _ _ _=>rfl,fun _ _ _ _=>rfl,fun _ _ _ _=>rfl,fun _ _ _ _=>rfl,fun _ _ _=>rfl,fun _ _ _=>rfl,fun _ _ _ _=>rfl,fun _ _ _ _ _=>rfl,fun p n s f a b=>?_,fun _ _ _ _ _=>rfl⟩
 ·simp only[List.mapM_cons,aC,Option.pure_def];cases f a with
  | none=>rfl
  | some b=>simp only[bE];cases l.mapM f<;>rfl
 ·simp only[frz,aC];cases a.mapM (frz p n s) with
  | none=>rfl
  | some q=>simp only[bE];cases b.mapM (frz p n s)<;>rfl
theorem ex_opt:(∀(h:Decidable True),@decide True h=true)∧(∀(h:Decidable False),@decide False h=false)∧(∀(α β:Type) (f:α→β) (a:α),(some a).map f=some (f a))∧(∀(α β:Type) (f:α→β),(none:Option α).map f=none)∧(∀(α β:Type) (f:α→Option β) (a:α),(some a).bind f=f a)∧(∀(α β:Type) (f:α→Option β),(none:Option α).bind f=none) ∧
  (∀(α β:Type) (x:Option α) (f:α→Option β),(x >>= f)=x.bind f)∧(∀(α:Type) (x y:α),(bif true then x else y)=x)∧(∀(α:Type) (x y:α),(bif false then x else y)=y) ∧
  ((!true)=false)∧((!false)=true)∧(∀b,(true||b)=true)∧(∀b,(false||b)=b)∧(∀b,(b||true)=true)∧(∀b,(b||false)=b)∧(∀b,(true&&b)=b)∧(∀b,(false&&b)=false)∧(∀b,(b&&true)=b)∧(∀b,(b&&false)=false):=by
 simp_all
theorem ex_lst:(∀(a:D) (l:List D),(a::l).length=l.length+1)∧(([]:List D).length=0)∧(∀(a v:D) (l:List D),(a::l).set 0 v=v::l)∧(∀(a v:D) (l:List D) (n:Nat),(a::l).set (n+1) v=a::l.set n v) ∧
  (∀(a:D) (l:List D),(a::l)[0]?=some a)∧(∀(a:D) (l:List D) (n:Nat),(a::l)[n+1]?=l[n]?)∧(∀(n:Nat),([]:List D)[n]?=none)∧(∀(a:D) (l:List D),(a::l).any eG=(eG a||l.any eG))∧(([]:List D).any eG=false) ∧
  (∀(l:List D),l.drop 0=l)∧(∀(a:D) (l:List D) (n:Nat),(a::l).drop (n+1)=l.drop n)∧(∀(l:List D),l.take 0=[])∧(∀(a:D) (l:List D) (n:Nat),(a::l).take (n+1)=a::l.take n)∧(∀(n:Nat),([]:List D).take n=[])∧(∀(n:Nat),([]:List D).drop n=[]) ∧
  (∀(cs:List D) (off n:Nat),cX cs off (some n)=bif Nat.ble (off+n) cs.length then some (.agg ((cs.drop off).take n)) else none) ∧
  (∀(G:List (Nat×List D)) (t:Tm),parts G t []=[])∧(∀(G:List (Nat×List D)) (t:Tm) (o n:Nat) (a:Arg) (l:List (Nat×Nat×Arg)),parts G t ((o,n,a)::l)=(o,n,a.ev G t)::parts G t l) ∧
  (∀(cs:List D),place cs []=some cs)∧(∀(cells:List D) (off n:Nat) (d:D) (r:List (Nat×Nat×D)),place cells ((off,n,d)::r)=(match d.cells? with
   | some cs=>bif Nat.beq cs.length n&&Nat.ble (off+n) cells.length then place (fJ cells off cs) r else none
   | none=>none)) ∧
  (∀(ty off:Nat) (cs vs:List D),stB (.fix ty cs) off vs=bif vs.any eG then none else bif Nat.ble (off+vs.length) cs.length then some (.fix ty (fJ cs off vs)) else none):=by
 refine⟨fun _ _=>rfl,rfl,fun _ _ _=>rfl,fun _ _ _ _=>rfl,fun _ _=>rfl,fun _ _ _=>rfl,fun _=>rfl,fun _ _=>rfl,rfl,fun _=>rfl,fun _ _ _=>rfl,fun _=>rfl,fun _ _ _=>rfl,fun _=>List.take_nil,fun _=>List.drop_nil,fun _ _ _=>rfl,fun _ _=>rfl,fun _ _ _ _ _ _=>rfl,fun _=>rfl,fun _ _ _ _ _=>rfl,fun _ _ _ _=>rfl⟩
theorem ex:type_of% fU∧type_of% sC∧type_of% sB∧type_of% aA∧type_of% rQ∧type_of% ex_end∧type_of% ex_any∧type_of% ex_dat∧type_of% ex_str∧type_of% ex_gd∧type_of% ex_opt∧type_of% ex_lst∧type_of% @go1:=⟨fU,sC,sB,aA,rQ,ex_end,ex_any,ex_dat,ex_str,ex_gd,ex_opt,ex_lst,@go1⟩
end Zv
namespace Zv.Ab
open Go Zv
structure Cz {α:Type} (x:α) where
 b:α
 h:x=b
noncomputable def cZ{α:Type}{x b:α}(h:x=b:=by conv=>lhs;cbv):Cz x:=⟨b,h⟩
def m(a b:Nat):cR:=⟨some a,.mv (.t b),none⟩
def l(a b:Nat):cR:=⟨some a,.ld none (.t b),none⟩
def u(a:Nat)(o:AOp):cR:=⟨some a,o,none⟩
def w(o:AOp):cR:=⟨none,o,none⟩
def my(a b g:Nat):cR:=⟨some a,.mv (.t b),some (g,true)⟩
def mn(a b g:Nat):cR:=⟨some a,.mv (.t b),some (g,false)⟩
def y(a g:Nat)(o:AOp):cR:=⟨some a,o,some (g,true)⟩
def n(a g:Nat)(o:AOp):cR:=⟨some a,o,some (g,false)⟩
def e(a k b:Nat):cR:=⟨some a,.ext k (.t b),none⟩
def f(a k b:Nat):cR:=⟨some a,.fa k (.t b),none⟩
def b(a:Nat)(o:BinOp)(x z:Nat):cR:=⟨some a,.bin o (.t x) (.t z),none⟩
def d(a:Nat)(o:BinOp)(x:Nat)(z:D):cR:=⟨some a,.bin o (.t x) (.c z),none⟩
def c(a:Nat)(z:D):cR:=⟨some a,.mv (.c z),none⟩
def s(x z:AC):AC:=.seq x z
def r(x:List cR):AC:=.reg none x
def i(x:Int):D:=.int .i64 x
def g(a k b:Nat):cR:=⟨some a,.ld (some k) (.t b),none⟩
def p(a x z:Nat):cR:=⟨some a,.pick (.t x) (.t z) (.c (.bool false)),none⟩
def q(a x z:Nat):cR:=⟨some a,.pick (.t x) (.c (.bool true)) (.t z),none⟩
def v(a f x:Nat):cR:=⟨some a,.call f [.t x],none⟩
def x(a f p q:Nat):cR:=⟨some a,.call f [.t p,.t q],none⟩
def z(a f p q r:Nat):cR:=⟨some a,.call f [.t p,.t q,.t r],none⟩
def j(a k x z:Nat):cR:=⟨some a,.iaS k (.t x) (.t z),none⟩
def k(a y x:Nat):cR:=⟨some a,.new y (.t x),none⟩
def o(a x:Nat):cR:=⟨some a,.len false (.t x),none⟩
def bF:D:=.bool false
def bT:D:=.bool true
theorem abq:(∀a b,m a b=⟨some a,.mv (.t b),none⟩)∧(∀a b,l a b=⟨some a,.ld none (.t b),none⟩)∧(∀a o,u a o=⟨some a,o,none⟩)∧(∀o,w o=⟨none,o,none⟩)∧(∀a b g,my a b g=⟨some a,.mv (.t b),some (g,true)⟩)∧(∀a b g,mn a b g=⟨some a,.mv (.t b),some (g,false)⟩)∧(∀a g o,y a g o=⟨some a,o,some (g,true)⟩)∧(∀a g o,n a g o=⟨some a,o,some (g,false)⟩) ∧
  (∀x,r x = .reg none x)∧(∀x,i x = .int .i64 x)∧(∀a k b,e a k b=⟨some a,.ext k (.t b),none⟩)∧(∀a k b,f a k b=⟨some a,.fa k (.t b),none⟩)∧(∀a o x z,b a o x z=⟨some a,.bin o (.t x) (.t z),none⟩)∧(∀a o x z,d a o x z=⟨some a,.bin o (.t x) (.c z),none⟩)∧(∀a z,c a z=⟨some a,.mv (.c z),none⟩)∧(∀x z,s x z = .seq x z)∧(∀a k b,g a k b=⟨some a,.ld (some k) (.t b),none⟩)∧(∀a x z,p a x z=⟨some a,.pick (.t x) (.t z) (.c (.bool false)),none⟩)∧(∀a x z,q a x z=⟨some a,.pick (.t x) (.c (.bool true)) (.t z),none⟩)∧(∀a f y,v a f y=⟨some a,.call f [.t y],none⟩)∧(∀a f y y',x a f y y'=⟨some a,.call f [.t y,.t y'],none⟩)∧(∀a f y y' y'',z a f y y' y''=⟨some a,.call f [.t y,.t y',.t y''],none⟩)∧(∀a k x z,j a k x z=⟨some a,.iaS k (.t x) (.t z),none⟩)∧(∀a y x,k a y x=⟨some a,.new y (.t x),none⟩)∧(∀a x,o a x=⟨some a,.len false (.t x),none⟩)∧bF = .bool false∧bT = .bool true:=
 ⟨fun _ _=>rfl,fun _ _=>rfl,fun _ _=>rfl,fun _=>rfl,fun _ _ _=>rfl,fun _ _ _=>rfl,fun _ _ _=>rfl,fun _ _ _=>rfl,fun _=>rfl,fun _=>rfl,fun _ _ _=>rfl,fun _ _ _=>rfl,fun _ _ _ _=>rfl,fun _ _ _ _=>rfl,fun _ _=>rfl,fun _ _=>rfl,fun _ _ _=>rfl,fun _ _ _=>rfl,fun _ _ _=>rfl,fun _ _ _=>rfl,fun _ _ _ _=>rfl,fun _ _ _ _ _=>rfl,fun _ _ _ _=>rfl,fun _ _ _=>rfl,fun _ _=>rfl,rfl,rfl⟩
end Zv.Ab
namespace Zv
open Go
noncomputable section
def PT:Program:={ toTables:=Proofs.Tryz.progTables,funcs:=Array.replicate 500 { Proofs.Tryz.f12 with body:=some .skip,name := "x" } }
def cgG(ops:Array Oper):Option (Nat×Bool)→Option (Nat×Bool)
 | none=>none
 | some (j,b)=>match ops[j]? with
  | some o=>match o.dst with
   | some d=>some (d,b)
   | none=>none
  | none=>none
def cgO(ops:Array Oper):List Oper→List cR
 | []=>[]
 | o::r=>match cOp PT o with
  | some op=>⟨o.dst,op,cgG ops o.guard⟩::cgO ops r
  | none=>[]
def cgA(o:Operand):Arg:=match dI o with
 | some a=>a
 | none=>.c .un
def pick(l:List cR):List (Nat×Nat)→List cR
 | []=>[]
 | p::r=>match l[p.1]? with
  | some o=>o::pick l r
  | none=>[]
def cgC:Code→List (List (Nat×Nat))→AC×List (List (Nat×Nat))
 | .skip,hs=>(.skip,hs)
 | .label l,hs=>(.block (2*l+1) .skip,hs)
 | .region _ ops d,hs=>match d with
  | false=>(.reg none (cgO ops ops.toList),hs)
  | true=>match hs with
   | h::r=>(.reg (some h) (pick (cgO ops ops.toList) h),r)
   | []=>(.skip,[])
 | .seq a b,hs=>match cgC a hs with
  | (x,h)=>match cgC b h with
   | (y,h)=>(.seq x y,h)
 | .cond c a b,hs=>match cgC a hs with
  | (x,h)=>match cgC b h with
   | (y,h)=>(.cond (cgA c) x y,h)
 | .block i a,hs=>match cgC a hs with
  | (x,h)=>(.block (2*i) x,h)
 | .loop a,hs=>match cgC a hs with
  | (x,h)=>(.loop x,h)
 | .exit i,hs=>(.exit (2*i),hs)
 | .goto l,hs=>(.exit (2*l+1),hs)
 | .scope a,hs=>match cgC a hs with
  | (x,h)=>(.scope (lX x (oU x) x),h)
 | .ret,hs=>(.ret,hs)
 | .rangeFunc f ps a b,hs=>match cgC a hs with
  | (x,h)=>match cgC b h with
   | (y,h)=>(.rfn (cgA f) ps.toList x y,h)
 | _,hs=>(.skip,hs)
def cG(f:Func)(hs:List (List (Nat×Nat))):AC:=match f.body with
 | some c=>(cgC c hs).1
 | none=>.skip
def pth:List Nat→AC→AC
 | 0::r,.seq a _=>pth r a
 | _::r,.seq _ b=>pth r b
 | 0::r,.cond _ a _=>pth r a
 | _::r,.cond _ _ b=>pth r b
 | _::r,.block _ a=>pth r a
 | _::r,.loop a=>pth r a
 | _::r,.scope a=>pth r a
 | 0::r,.rfn _ _ a _=>pth r a
 | _::r,.rfn _ _ _ b=>pth r b
 | _,a=>a
abbrev Cq(f:Func)(hs:List (List (Nat×Nat))):=Ab.Cz (cG f hs)
theorem cI:type_of% xL∧∀{α:Type} {x b:α} (h:x=b),(Ab.cZ h).b=b:=⟨xL,fun _=>rfl⟩
end
end Zv
