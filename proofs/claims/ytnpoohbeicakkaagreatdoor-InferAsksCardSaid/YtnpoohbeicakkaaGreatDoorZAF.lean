/- Data that are frozen, stores that are handed on, and calls: what is called does what the abstract call says. Conditions: none. -/
import Derived.Test.YtnpoohbeicakkaaGreatDoorZAE
set_option linter.unusedSimpArgs false
set_option linter.unusedVariables false
namespace Zv
open Go
section
variable {E:Env} {M0:Nat→Prop} {w0:World} {N:Nat} {μ:Mu} {M:Nat→Prop} {a:Act} {w:World} {x:AS}
theorem Rel.ext0(h:Rel E M0 w0 N μ a w x):Ext (Mm M0 μ) w M0 w:=
 ⟨aK _,fun _ _ _=>rfl,fun b _ hm=>.inl hm⟩
theorem wC(h:Rel E M0 w0 N μ a w x){nm:Nat}{l:Loc}{b:Nat}(hl:μ nm=some l)(hb:l.blk=some b):¬M0 b:=fun hm=>by
 have:=h.m0lt b hm;have:=h.own nm l b hl hb;omega
theorem vA{f:D→Option D}{R R':D→Value→Prop}{cs ds:List D}{vs:List Value}(hm:cs.mapM f=some ds)(hl:vs.length=cs.length)
  (hr:∀(i:Nat) (c:D) (v:Value),cs[i]?=some c→vs[i]?=some v→R c v) (hf:∀c d v,c∈cs→f c=some d→R c v→R' d v) :
  vs.length=ds.length∧∀(i:Nat) (d:D) (v:Value),ds[i]?=some d→vs[i]?=some v→R' d v:=by
 obtain⟨h1,h2⟩:=mP hm;refine⟨by omega,fun i d v hd hv=>?_⟩
 have hi:i<cs.length:=by
  rw[dE]at hd;obtain⟨h,_⟩:=hd;omega
 have hc:cs[i]?=some cs[i]:=aI hi
 grind
theorem fr_rel(h:Rel E M0 w0 N μ a w x):∀(n:Nat) (d d':D) (v:Value),fr n x.s d=some d'→aY (Mm M0 μ) w μ d v→aY M0 w mu0 d' v:=by
 have hx:=h.ext0;have Qj:∀(d:D) (v:Value),d.pure=true→aY (Mm M0 μ) w μ d v→aY M0 w mu0 d v:=fun d v hp hv=>
  aY.mono hx d v (gJ.refl _) (aY.pure d v hp hv)
 intro n
 induction n with
 | zero=>
  grind [fr]
 | succ n ih=>
  intro d d' v hf hv;simp only[fr]at hf;cases hp:d.pure<;>rw[hp]at hf
  rotate_left
  ·grind
  simp only[cO]at hf;have Lq:∀(cs ds:List D) (vs:List Value),cs.mapM (fr n x.s)=some ds→bI (Mm M0 μ) w μ cs vs→bI M0 w mu0 ds vs:=fun cs ds vs hm hr=>by
   obtain⟨h1,h2⟩:=vA (R:=aY (Mm M0 μ) w μ) (R':=aY M0 w mu0) hm hr.length (fun i c v hc hv=>hr.at hc hv) (fun c d v hc hf hr=>ih c d v hf hr)
   exact bI.mk h1 h2
  have cells:∀(b off:Nat) (cs ds:List D),cs.mapM (fr n x.s)=some ds→(∀(i:Nat) (e:D),cs[i]?=some e→∃v',w.cell? ⟨b,off+i,none⟩=some v'∧aY (Mm M0 μ) w μ e v')→iK M0 w b off ds:=by
   intro b off cs ds hm hc;obtain⟨h1,h2⟩:=mP hm;refine iK.mk fun i d hd=>?_
   have hi:i<cs.length:=by
    rw[dE]at hd;obtain⟨h,_⟩:=hd;omega
   have So:cs[i]?=some cs[i]:=aI hi;obtain⟨v',Cu,hr⟩:=hc i _ So;exact⟨v',Cu,ih _ _ _ (h2 i _ d So hd) hr⟩
  cases d<;>simp only[reduceCtorEq]at hf
  case agg cs=>
   grind [aT,aY]
  case tup cs=>
   grind [aT,aY]
  case iface t d=>
   grind [aT,aY]
  case fn f p q=>
   grind [aC,aB,aD,aY]
  case ms nm off sz len cap=>
   simp only[aY]at hv;obtain⟨l,b,h1,h2,rfl,h3,h4⟩:=hv;have key:∀(blk:Blk) (cs:List D),sget x.s nm=some blk→eR blk=some cs →
     (bif Nat.ble (off+len*sz) cs.length then(((cs.drop off).take (len*sz)).mapM (fr n x.s)).map (D.sl (Nat.beq cap len) len) else none)=some d'→aY M0 w mu0 d' (.slice (some ⟨b,off,none⟩) len cap):=by
    intro blk cs hg hb hf;cases Ac:Nat.ble (off+len*sz) cs.length<;>rw[Ac]at hf
    ·cases hf
    simp only[bG,aT]at hf;obtain⟨ds,hm,rfl⟩:=hf;simp only[aY];obtain⟨_,_,_,zQ⟩:True∧True∧True∧b<w.heap.size:=by
     grind [nL]
    refine⟨_,_,rfl,h3,fun he=>bH he,.inr ⟨b,off,rfl,wC h h1 h2,zQ,?_⟩⟩
    refine cells b off _ _ hm (fun i e hi=>?_)
    rw[List.getElem?_take]at hi;split at hi
    ·grind [uK]
    ·cases hi
   split at hf
   ·rename_i cs hg;exact key _ cs hg rfl hf
   ·rename_i cs hg;exact key _ cs hg rfl hf
   ·cases hf
  case gs nm off sz len=>
   simp only[aY]at hv;obtain⟨⟨lb,lc⟩,cap,h1,rfl,h3,h4,h5⟩:=hv;split at hf
   ·rename_i cs hg;cases Ac:Nat.ble (off+len*sz) cs.length<;>rw[Ac]at hf
    ·cases hf
    simp only[bG,aT]at hf;obtain⟨ds,hm,rfl⟩:=hf;simp only[aY];refine⟨_,_,rfl,h3,(fun he=>by simp at he),?_⟩
    cases lb with
    | none=>grind
    | some b=>
     have zQ:b<w.heap.size:=by
      obtain⟨l',k1,_,k3⟩:=nL h h1 hg rfl;rw[h1]at k1;cases k1;exact(k3 b rfl).2.1
     refine .inr ⟨b,off,rfl,wC h h1 rfl,zQ,cells b off _ _ hm (fun i e hi=>?_)⟩
     rw[List.getElem?_take]at hi;split at hi
     ·exact uK h hg rfl h1 rfl off i e hi
     ·cases hi
   ·cases hf
  case ptr nm off=>
   simp only[aY]at hv;obtain⟨l,b,h1,h2,rfl⟩:=hv;split at hf
   ·rename_i cs hg;simp only[aT]at hf;obtain⟨ds,hm,rfl⟩:=hf;have zQ:b<w.heap.size:=by
     obtain⟨l',k1,_,k3⟩:=nL h h1 hg rfl;rw[h1]at k1;cases k1;exact(k3 b h2).2.1
    simp only[aY];refine⟨b,0,by simp,wC h h1 h2,zQ,cells b 0 _ _ hm (fun i e hi=>?_)⟩
    have:=uK h hg rfl h1 h2 0 i e (by simpa using hi)
    exact this
   ·cases hf
theorem frs_rel(h:Rel E M0 w0 N μ a w x){n:Nat}{ds az:List D}{vs:List Value}(hf:ds.mapM (fr n x.s)=some az)(hv:bI (Mm M0 μ) w μ ds vs):bI M0 w mu0 az vs:=by
 obtain⟨h1,h2⟩:=vA (R:=aY (Mm M0 μ) w μ) (R':=aY M0 w mu0) hf hv.length (fun i c v hc Cu=>hv.at hc Cu) (fun c d v _ hf hr=>fr_rel h n c d v hf hr)
 exact bI.mk h1 h2
theorem Rel.globals0(h:Rel E M0 w0 N μ a w x):GRel E M0 w:=fun p hp=>by
 obtain⟨h1,h2,h3⟩:=h.glob p hp;have hx:Ext M0 w0 M0 w:=⟨h.size,fun b hb _=>h.old b hb,fun _ _ hm=>hm⟩
 exact⟨h1,bY h2 h.size,iK.mono hx p.1 h1 h2 p.2 0 h3⟩
theorem Rel.more(h:Rel E M0 w0 N μ a w x){w':World}(hs:w.heap.size≤w'.heap.size)(he:vJ w w')(hb:∀b,b<w.heap.size→w'.heap[b]?=w.heap[b]?):
  Rel E M0 w0 N μ a w' x∧Fr x.c x.s μ w x.c x.s μ w':=by
 have hx:Ext (Mm M0 μ) w (Mm M0 μ) w':=⟨hs,fun b zQ _=>hb b zQ,fun _ _ hm=>hm⟩
 exact⟨{h with
  size:=fZ h.size hs
  old:=fun b Gm=>by rw[hb b (bY Gm h.size)];exact h.old b Gm
  env:=⟨he.1.trans h.env.1,he.2.trans h.env.2⟩
  defers:=iR.mono hx (gJ.refl _) h.defers
  tm:=fun n=>aY.mono hx _ _ (gJ.refl _) (h.tm n)
  own:=fun nm l b h1 h2=>⟨(h.own nm l b h1 h2).1,bY (h.own nm l b h1 h2).2 hs⟩
  st:=fun nm blk l hl hg=>rV.mono hx (gJ.refl _) (fun l b hl Be=>⟨hb b (h.own nm l b hl Be).2,id⟩) (h.st nm blk l hl hg) },
  ⟨hs,fun b zQ _=>hb b zQ,fun _ _ hl=>hl,gJ.refl _,aK _,fun _ _ h=>h,nonew⟩⟩
def lW(E:Env)(M0:Nat→Prop)(w0:World)(μ:Mu)(w:World)(s:St)(c:Nat):Prop:=
 Rel E M0 w0 0 μ ⟨#[],[]⟩ w ⟨.ls [],s,c,[],none⟩
theorem xG(n:Nat):tget (.ls []:Tm) n = .un:=rfl
theorem Rel.toS(h:Rel E M0 w0 N μ a w x):lW E M0 w0 μ w x.s x.c:=
 {h with
  defers:=by simp only[iR]
  n:=dM _
  tm:=fun n=>by grind [xG,aY]
  st:=h.st
  lt:=h.lt
  inj:=h.inj }
theorem lW.frame{s:St}{c:Nat}(h:lW E M0 w0 μ w s c){t:Tm}{d:List (D×List D)}{r:Option Nat}(hn:N≤a.tmps.size)(ht:∀n,aY (Mm M0 μ) w μ (tget t n) (a.tmps.getD n undef))
  (hd:iR (Mm M0 μ) w μ d a.defers):Rel E M0 w0 N μ a w ⟨t,s,c,d,r⟩:=
 {h with
  defers:=hd
  n:=hn
  tm:=ht
  st:=h.st
  lt:=h.lt
  inj:=h.inj }
theorem lW.ext{s s':St}{c c':Nat}{μ':Mu}{w':World}(h:lW E M0 w0 μ w s c)(h':lW E M0 w0 μ' w' s' c')(hf:Fr c s μ w c' s' μ' w'):Ext (Mm M0 μ) w (Mm M0 μ') w':=hf.ext
theorem Rel.carry(h:Rel E M0 w0 N μ a w x){s':St}{c':Nat}{μ':Mu}{w':World}(h':lW E M0 w0 μ' w' s' c')(hf:Fr x.c x.s μ w c' s' μ' w'):
  Rel E M0 w0 N μ' a w' ⟨x.t,s',c',x.d,x.r⟩:=by
 have hx:=lW.ext h.toS h' hf;exact h'.frame h.n (fun n=>aY.mono hx _ _ hf.mu (h.tm n)) (iR.mono hx hf.mu h.defers)
end
def jC(M:Nat→Prop)(w:World)(μ:Mu):Ch→List PanicEntry→Prop
 | [],l=>l=[]
 | (d,r)::c,l=>∃v l',l={ v:=v,recovered:=r }::l'∧aY M w μ d v∧jC M w μ c l'
def FORel(M:Nat→Prop)(w:World)(μ:Mu):FO→Ending→Prop
 | .ret d,e=>∃v,e = .returned v∧aY M w μ d v
 | .pan c,e=>∃ch,e = .panicked ch∧jC M w μ c ch
def OuRel(M:Nat→Prop)(w:World)(μ:Mu):Out→Ou→Prop
 | .normal,o=>o = .normal
 | .exit i,o=>o = .exit i
 | .ret,o=>o = .ret
 | .pan c,o=>∃ch,o = .pan ch∧jC M w μ c ch
theorem jC.mono{M M':Nat→Prop}{w w':World}{μ μ':Mu}(hx:Ext M w M' w')(hm:gJ μ μ'):∀{c:Ch} {l:List PanicEntry},jC M w μ c l→jC M' w' μ' c l
 | [],_,h=>by grind [jC]
 | (d,r)::c,_,h=>by
  simp only[jC]at h ⊢;obtain⟨v,l',rfl,h1,h2⟩:=h;exact⟨v,l',rfl,aY.mono hx _ _ hm h1,jC.mono hx hm h2⟩
def uP(E:Env)(M0:Nat→Prop)(w0:World)(μ:Mu)(w:World)(c:Nat)(s:St)(o:FO)(s':St)(c':Nat)(e:Ending)(w':World):Prop:=
 ∃μ',lW E M0 w0 μ' w' s' c'∧Fr c s μ w c' s' μ' w'∧FORel (Mm M0 μ') w' μ' o e
theorem uP.no{E:Env}{M0:Nat→Prop}{w0:World}{μ:Mu}{w:World}{c:Nat}{s:St}{o:FO}{s':St}{c':Nat}{w':World}:¬uP E M0 w0 μ w c s o s' c' .outgrown w':=by
 rintro⟨_,_,_,h⟩;cases o with
 | ret d=>obtain⟨v,h,_⟩:=h;cases h
 | pan c=>obtain⟨v,h,_⟩:=h;cases h
structure oF (E:Env) (cl:CL):Prop where
 fn:∀{M0:Nat→Prop} {w0:World} {μ:Mu} {w:World} {s:St} {c f:Nat} {args:List D} {vals:List Value} {o:FO} {s':St} {c':Nat},
  lW E M0 w0 μ w s c→bI (Mm M0 μ) w μ args vals→cl (.fn f) args s c = .ok o s' c'→callable E.P f=true∧Calls E.P f vals.toArray w (uP E M0 w0 μ w c s o s' c')
 yl:∀{M0:Nat→Prop} {w0:World} {μ:Mu} {w:World} {s:St} {c nm:Nat} {args:List D} {vals:List Value} {o:FO} {s':St} {c':Nat},
  lW E M0 w0 μ w s c→bI (Mm M0 μ) w μ args vals→cl (.yl nm) args s c = .ok o s' c'→∀loc l,μ nm=some loc→loc.blk=some l→oI E.P (Instr.yield l vals.toArray) w (uP E M0 w0 μ w c s o s' c')
def oT(P:Program)(t:Nat)(name:String):Option Nat:=do
 let i ←P.info? t
 let m ←i.methods.find? (·.name==name)
 bif m.path.isEmpty then match m.func,P.underlying t with
  | some (f,true),some (.pointer _)=>some f
  | some (_,false),some (.pointer _)=>none
  | some (f,false),some _=>some f
  | _,_=>none
 else none
theorem run_method{P:Program}{t:Nat}{name:String}{f:Nat}(h:oT P t name=some f)(n:Nat)(v:Value)(w:World):(method (n+1) t v name).run P w = .ok (f,v) w:=by
 simp only[oT,aC,aB]at h;obtain⟨i,hi,m,hm,h⟩:=h;cases hp:m.path.isEmpty<;>rw[hp]at h
 ·cases h
 have Vi:m.path = #[]:=by simpa using hp
 simp only[bG]at h;simp only[method,bJ,eZ hi,aR,hm,Vi,follow,bV];split at h
 ·rename_i g e Dz hu;cases h;simp only[Dz,receiverAt,bJ,bL hu,aR,Place.get,bV]
 ·cases h
 ·rename_i g td hnp Dz hu;cases h;simp only[Dz,receiverAt,bJ,bL hu,aR,Place.get,bV]
 ·cases h
def callRaw(cx:Cx)(cl:CL)(d:D)(args:List D)(s:St)(c:Nat):FR:=
 match d with
 | .fn (.func f) fs cs=>cl (.fn f) (fs++args++cs) s c
 | .fn (.method name) fs cs=>match fs++args,cs with
  | .iface t v::r,[]=>match cx.M t name with
   | some g=>cl (.fn g) (v::r) s c
   | none=>.no
  | _,_=>.no
 | .yl nm=>cl (.yl nm) args s c
 | _=>.no
theorem wM(cx:Cx)(cl:CL)(dst:Option Nat)(x:AS)(d:D)(args:List D):lY cx cl dst x d args=back dst x (callRaw cx cl d args x.s x.c):=by
 cases d with
 | fn f fs cap=>
  cases f with
  | method name=>
   simp only[lY,callRaw];generalize fs++args=l;cases l with
   | nil=>rfl
   | cons y r=>
    cases cap with
    | nil=>
     cases y with
     | iface t v=>
      simp only[callM];cases cx.M t name<;>rfl
     | _=>rfl
    | cons _ _=>cases y<;>rfl
  | _=>rfl
 | _=>rfl
theorem back_inv{dst:Option Nat}{x:AS}{r:FR}{zR:Out}{y:AS}(h:back dst x r = .ok zR y):
  ∃fo s c,r = .ok fo s c∧((∃d,fo = .ret d∧zR = .normal∧y=⟨iO dst x.t d,s,c,x.d,x.r⟩)∨(∃ch,fo = .pan ch∧zR = .pan ch∧y=⟨x.t,s,c,x.d,x.r⟩)):=by
 cases r with
 | no=>cases h
 | ok fo s c=>
  refine⟨fo,s,c,rfl,?_⟩;cases fo with
  | ret d=>
   have h':R.ok Out.normal ⟨iO dst x.t d,s,c,x.d,x.r⟩ = .ok zR y:=h;cases h';exact .inl ⟨d,rfl,rfl,rfl⟩
  | pan ch=>
   have h':R.ok (Out.pan ch) ⟨x.t,s,c,x.d,x.r⟩ = .ok zR y:=h;cases h';exact .inr ⟨ch,rfl,rfl,rfl⟩
section
variable {E:Env} {M0:Nat→Prop} {w0:World} {μ:Mu} {M:Nat→Prop} {w:World} {s:St} {c:Nat}
theorem xR{P:Program}{f:Nat}(h:callable P f=true)(args:Array Value)(w:World):(callFunc f args).run P w = .ok (.enter f args) w:=by
 unfold callable at h;split at h
 ·rename_i fn Dz;simp only[Bool.not_eq_true',Bool.or_eq_false_iff]at h
  grind [callFunc,bJ,run_program,aR,cT,bV]
 ·cases h
theorem wL{cl:CL}(Bo:oF E cl)(h:lW E M0 w0 μ w s c){f:Nat}{args:List D}{vals:Array Value}(ha:bI (Mm M0 μ) w μ args vals.toList){o:FO}{s':St}{c':Nat}
  (hr:cl (.fn f) args s c = .ok o s' c'):oI E.P (callFunc f vals) w (uP E M0 w0 μ w c s o s' c'):=by
 obtain⟨h1,h2⟩:=Bo.fn h ha hr;refine⟨_,_,_,xR h1 _ _,.enter _ _,fun c0 cs=>?_⟩
 simp_all [qN.of_calls,uP.no]
theorem oI.congr{P:Program}{s s':Sem Next}{w:World}{R:Ending→World→Prop}(h:oI P s w R)(he:s'.run P w=s.run P w):oI P s' w R:=by
 obtain⟨n,w1,Jy,h1,h2⟩:=h;exact⟨n,w1,Jy,he.trans h1,h2⟩
theorem uH{cl:CL}{cx:Cx}(Bo:oF E cl)(hM:∀t n f,cx.M t n=some f→oT E.P t n=some f)(h:lW E M0 w0 μ w s c){name:String}{t g:Nat}{d:D}{r:List D}
  {vals:Array Value} (ha:bI (Mm M0 μ) w μ (.iface t d::r) vals.toList) (hg:cx.M t name=some g) {o:FO} {s':St} {c':Nat} (hr:cl (.fn g) (d::r) s c = .ok o s' c') (cap:Array Value) :
  oI E.P (invoke (.fn (.method name) cap) vals) w (uP E M0 w0 μ w c s o s' c'):=by
 simp only[bI]at ha;obtain⟨v,vs,hvals,h1,h2⟩:=ha;simp only[aY]at h1;obtain⟨u,rfl,h1⟩:=h1;have hv:vals=(Value.iface t u::vs).toArray:=by
  apply Array.ext';simp[hvals]
 subst hv;have hm:=run_method (hM _ _ _ hg) (E.P.types.size+99) u w;refine(wL Bo h (vals:=(u::vs).toArray) (by grind [bI]) hr).congr ?_
 simp only[invoke,List.getElem?_toArray,aV,callMethod,bJ,run_program,aR,Made.depth]
 simp_all
theorem raw_sound{cl:CL}{cx:Cx}(Bo:oF E cl)(hM:∀t n f,cx.M t n=some f→oT E.P t n=some f)(h:lW E M0 w0 μ w s c){d:D}{v:Value}(hd:aY (Mm M0 μ) w μ d v)
  {args:List D} {vals:Array Value} (ha:bI (Mm M0 μ) w μ args vals.toList) {o:FO} {s':St} {c':Nat} (hr:callRaw cx cl d args s c = .ok o s' c') :
  oI E.P (do let d ←Deferred.ofValue v vals;invoke d.target d.args) w (uP E M0 w0 μ w c s o s' c'):=by
 unfold callRaw at hr;split at hr
 ·rename_i f fs cap;simp only[aY]at hd;obtain⟨va,vb,rfl,h1,h2⟩:=hd;refine(wL Bo h (vals:=(va++vals)++vb) ?_ hr).congr ?_
  ·simp only[Array.toList_append];exact(h1.append ha).append h2
  grind [Deferred.ofValue,bJ,bV,aR,invoke]
 ·rename_i name fs cap;simp only[aY]at hd;obtain⟨va,vb,rfl,h1,h2⟩:=hd;split at hr
  ·rename_i t u r Gr;split at hr
   ·rename_i g hg;have Aa:bI (Mm M0 μ) w μ (.iface t u::r) (va++vals).toList:=by
     rw[←Gr,Array.toList_append];exact h1.append ha
    grind [uH,Deferred.ofValue,bJ,bV,aR]
   ·cases hr
  ·cases hr
 ·rename_i nm;simp only[aY]at hd;obtain⟨loc,b,h1,h2,rfl⟩:=hd;have:=Bo.yl h ha hr loc b h1 h2
  simp_all [Deferred.ofValue,bJ,bV,aR,invoke,Array.empty_append]
 ·cases hr
end
variable {x x':AS} {P:Program}
theorem appD_r{sz bytes ty:Nat}{a b d:D}(h:iS x sz bytes ty a b=some (d,x')):x'.r=x.r∧x'.d=x.d:=by
 unfold iS at h;simp only[aC,aB]at h;obtain⟨⟨ys,n⟩,_,h⟩:=h
 repeat' (first|contradiction|(cases h;exact⟨rfl,rfl⟩)|(split at h)|(simp only[aT,cond_eq_ite]at h)|(obtain⟨_,_,h⟩:=h))
variable {op:AOp}
theorem step_r{G:List (Nat×List D)}{d:D}(h:step G op x=some (d,x')):x'.r=x.r∧x'.d=x.d:=by
 cases op
 case app=>exact appD_r h
 all_goals
  simp only[stq,aC]at h
  repeat' (first|contradiction|(cases h;exact⟨rfl,rfl⟩)|(split at h)|(simp only[aB,aT,cond_eq_ite]at h)|(obtain⟨_,_,h⟩:=h))
theorem appD_tm{sz bytes ty:Nat}{a b d:D}(h:iS x sz bytes ty a b=some (d,x')):x'.t=x.t:=by
 unfold iS at h;simp only[aC,aB]at h;obtain⟨⟨ys,n⟩,_,h⟩:=h
 repeat' (first|contradiction|(cases h;rfl)|(split at h)|(simp only[aT,cond_eq_ite]at h)|(obtain⟨_,_,h⟩:=h))
theorem step_tm{G:List (Nat×List D)}{d:D}(h:step G op x=some (d,x')):x'.t=x.t:=by
 cases op
 case app=>exact appD_tm h
 all_goals
  simp only[stq,aC]at h
  repeat' (first|contradiction|(cases h;rfl)|(split at h)|(simp only[aB,aT,cond_eq_ite]at h)|(obtain⟨_,_,h⟩:=h))
def AOp.data:AOp→Prop
 | .call ..=>False
 | .callv ..=>False
 | .inv ..=>False
 | .pan ..=>False
 | .dfr ..=>False
 | .rcv=>False
 | _=>True
theorem zOp_data{cx:Cx}{cl:CL}{ao:cR}(h:ao.op.data):zOp cx cl ao x=zval ao.dst (step cx.G ao.op x):=by
 obtain⟨dst,op,g⟩:=ao;cases op<;>first|rfl|exact h.elim
theorem zval_inv{dst:Option Nat}{r:Option (D×AS)}{zR:Out}{y:AS}(h:zval dst r = .ok zR y):∃d x',r=some (d,x')∧zR = .normal∧y=x'.put dst d:=by
 cases r with
 | none=>cases h
 | some p=>
  obtain⟨d,x'⟩:=p;refine⟨d,x',rfl,?_⟩;have h':R.ok Out.normal ⟨iO dst x'.t d,x'.s,x'.c,x'.d,x'.r⟩ = .ok zR y:=h;cases h';exact⟨rfl,by cases dst<;>rfl⟩
theorem cOp_kind0{o:Oper}(h:yW P o=some op):
  (op.data∧∀c,o.op≠.defer c)∨(∃c f l,o.op = .call c∧c.callee = .value (.func f)∧mG c.args=some l∧op = .call f l) ∨
  (∃c y g l,o.op = .call c∧c.callee = .value y∧dI y=some g∧mG c.args=some l∧op = .callv g l) ∨
  (∃c r m g l,o.op = .call c∧c.callee = .invoke r m∧dI r=some g∧mG c.args=some l∧op = .inv m g l) ∨
  (∃y g,o.op = .panic y∧dI y=some g∧op = .pan g) ∨
  (∃c y g l,o.op = .defer c∧c.callee = .value y∧dI y=some g∧mG c.args=some l∧op = .dfr g l) ∨
  (∃c,o.op = .call c∧c.callee = .builtin .recover∧op = .rcv):=by
 cases ho:o.op
 case call c=>
  simp only[yW,ho]at h;cases Aw:c.callee with
  | value g=>
   grind [aC,aB,aD]
  | invoke r m=>
   grind [aC,aB,aD]
  | builtin b=>
   rw[Aw]at h;dsimp only at h;cases b
   case recover=>
    grind
   all_goals
    refine .inl ⟨?_,fun _ e=>by cases e⟩
    repeat' (first|contradiction|(cases h;trivial)|(split at h)|(simp only[aC,aB,aD,cond_eq_ite]at h)|(obtain⟨_,_,h⟩:=h))
 case panic y=>
  grind [yW,aC,aB,aD]
 case defer c=>
  simp only[yW,ho]at h
  grind [aC,aB,aD]
 all_goals
  refine .inl ⟨?_,fun _ e=>by cases e⟩
  simp only[yW,ho]at h
  repeat' (first|contradiction|(cases h;trivial)|(split at h)|(simp only[aC,aB,aD,cond_eq_ite]at h)|(obtain⟨_,_,h⟩:=h))
theorem cOp_kind{o:Oper}(h:cOp P o=some op):
  (op.data∧∀c,o.op≠.defer c)∨(∃c f l,o.op = .call c∧c.callee = .value (.func f)∧mG c.args=some l∧op = .call f l) ∨
  (∃c y g l,o.op = .call c∧c.callee = .value y∧dI y=some g∧mG c.args=some l∧op = .callv g l) ∨
  (∃c r m g l,o.op = .call c∧c.callee = .invoke r m∧dI r=some g∧mG c.args=some l∧op = .inv m g l) ∨
  (∃y g,o.op = .panic y∧dI y=some g∧op = .pan g) ∨
  (∃c y g l,o.op = .defer c∧c.callee = .value y∧dI y=some g∧mG c.args=some l∧op = .dfr g l) ∨
  (∃c,o.op = .call c∧c.callee = .builtin .recover∧op = .rcv):=by
 unfold cOp at h;split at h
 ·rename_i Ut he;cases h;obtain⟨hk,hd⟩:=cExt_kind he;refine .inl ⟨?_,hd⟩;rcases hk with⟨k,l,rfl⟩|⟨k,l,rfl⟩<;>trivial
 ·exact cOp_kind0 h
theorem nJ{N:Nat}{ops:Array Oper}{o:Oper}{ao:cR}(h:yV P N ops o=some ao):
  cOp P o=some ao.op∧ao.dst=o.dst∧cGuard ops o.guard=some ao.guard∧(match o.dst with|some d=>Nat.blt d N|none=>true)=true:=by
 grind [yV,aC,aB,aD,Nat.blt]
def gR(b:Frame)(r:Option Nat)(μ:Mu):Prop:=
 match r with
 | none=>b.roundOf=none
 | some nm=>∃loc l,μ nm=some loc∧loc.blk=some l∧b.roundOf=some l
theorem gR.mono{b:Frame}{r:Option Nat}{μ μ':Mu}(hm:gJ μ μ')(h:gR b r μ):gR b r μ':=by
 cases r with
 | none=>exact h
 | some nm=>obtain⟨loc,l,h1,h2,h3⟩:=h;exact⟨loc,l,hm _ _ h1,h2,h3⟩
def Did(E:Env)(M0:Nat→Prop)(w0:World)(N:Nat)(μ:Mu)(w:World)(x:AS)(m:Machine)(b:Frame)(k:List Item)(cs:List Frame)(zR:Out)(y:AS):Prop:=
 ∃a' w' μ' ou,Rel E M0 w0 N μ' a' w' y∧Fr x.c x.s μ w y.c y.s μ' w'∧y.r=x.r∧OuRel (Mm M0 μ') w' μ' zR ou∧Ends E.P m b k cs ou a' w'
def DidA(a:Act)(dst:Option Nat)(E:Env)(M0:Nat→Prop)(w0:World)(N:Nat)(μ:Mu)(w:World)(x:AS)(m:Machine)(b:Frame)(k:List Item)(cs:List Frame)(zR:Out)(y:AS):Prop:=
 ∃a' w' μ' ou,Rel E M0 w0 N μ' a' w' y∧(∀n,dst≠some n→a'.tmps.getD n undef=a.tmps.getD n undef)∧Fr x.c x.s μ w y.c y.s μ' w'∧y.r=x.r∧OuRel (Mm M0 μ') w' μ' zR ou∧Ends E.P m b k cs ou a' w'
theorem DidA.did{a:Act}{dst:Option Nat}{E:Env}{M0:Nat→Prop}{w0:World}{N:Nat}{μ:Mu}{w:World}{m:Machine}{b:Frame}{k:List Item}{cs:List Frame}{zR:Out}{y:AS} 
  (h:DidA a dst E M0 w0 N μ w x m b k cs zR y):Did E M0 w0 N μ w x m b k cs zR y:=by
 obtain⟨a',w',μ',ou,h1,_,h2,h3,h4,h5⟩:=h;exact⟨a',w',μ',ou,h1,h2,h3,h4,h5⟩
theorem uW(a:Act)(dst:Option Nat)(v:Value)(n:Nat)(h:dst≠some n):(a.put dst v).tmps.getD n undef=a.tmps.getD n undef:=by
 cases dst with
 | none=>rfl
 | some d=>
  simp_all [Act.put,gV,Array.getElem?_setIfInBounds_ne]
section
variable {E:Env} {M0:Nat→Prop} {w0:World} {N:Nat} {μ:Mu} {M:Nat→Prop} {a:Act} {w:World} {x:AS} {b:Frame} {k:List Item} {cs:List Frame}
theorem Did.of_steps{m m1:Machine}{zR:Out}{y:AS}(h:Steps E.P m m1)(h':Did E M0 w0 N μ w x m1 b k cs zR y):Did E M0 w0 N μ w x m b k cs zR y:=by
 obtain⟨a',w',μ',ou,h1,h2,h3,h4,h5⟩:=h';exact⟨a',w',μ',ou,h1,h2,h3,h4,h5.of_steps h⟩
theorem evs_map(l:List Arg)(G:List (Nat×List D))(t:Tm):evs l G t=l.map (·.ev G t):=by
 induction l with
 | nil=>rfl
 | cons y r ih=>rw[bS,←ih];rfl
theorem args_ev(h:Rel E M0 w0 N μ a w x){l:Array Operand}{az:List Arg}(hc:mG l=some az):bI (Mm M0 μ) w μ (evs az E.G x.t) (l.map a.eval).toList:=by
 rw[evs_map,Array.toList_map];exact yY h hc
theorem call_did(h:Rel E M0 w0 N μ a w x){ops:Array Oper}{i:Nat}{rest:List Nat}{o:Oper}(ho:ops[i]?=some o)(hw:Region.wanted o (yielded ops a.tmps)=true)(Es:∀c,o.op≠.defer c)
  (hd:(match o.dst with|some d=>Nat.blt d N|none=>true)=true) {r:FR} {zR:Out} {y:AS} (hs:back o.dst x r = .ok zR y)
  (Au:∀fo s c,r = .ok fo s c→oI E.P (execOp a.eval o) w (uP E M0 w0 μ w x.c x.s fo s c)) :
  DidA a o.dst E M0 w0 N μ w x (lone (fat b a (.inRegion ops (i::rest)::k)) cs w) b (.inRegion ops rest::k) cs zR y:=by
 obtain⟨fo,s,c,rfl,hy⟩:=back_inv hs;obtain⟨n,w1,Jy,zV,hn,hdel⟩:=Au _ _ _ rfl;have hg:=mE (P:=E.P) (b:=b) (k:=k) (cs:=cs) (w:=w) (rest:=rest) ho hw (.inr Es);have Mq:Go.step E.P (lone (fat b a (.inRegion ops (i::rest)::k)) cs w) = .next (lone Jy (fat b a (.inRegion ops (i::rest)::k)::cs) w1):=
  dK (by rw[hg];exact zB zV hn rfl)
 obtain⟨e,w',⟨μ',hS,hf,Eb⟩,zZ⟩:=hdel (fat b a (.inRegion ops (i::rest)::k)) cs;have hR:=h.carry hS hf;rcases hy with⟨d,rfl,rfl,rfl⟩|⟨ch,rfl,rfl,rfl⟩
 ·obtain⟨v,rfl,hv⟩:=Eb;refine⟨a.put o.dst v,w',μ',.normal,?_,uW _ _ _,hf,rfl,rfl,?_⟩
  ·have:=hR.put (dst:=o.dst) hd hv;revert this;cases o.dst<;>exact id
  ·have:=nH b a ops i rest k v;rw[ho]at this;exact .head Mq (by grind)
 ·obtain⟨Aj,rfl,hc⟩:=Eb;exact⟨a,w',μ',.pan Aj,hR,fun _ _=>rfl,hf,rfl,⟨Aj,rfl,hc⟩,_,rfl,.head Mq zZ⟩
theorem op_didA{cl:CL}{cx:Cx}(Bo:oF E cl)(hM:∀t n f,cx.M t n=some f→oT E.P t n=some f)(hG:cx.G=E.G)(h:Rel E M0 w0 N μ a w x)(Ai:gR b x.r μ)
  {ops:Array Oper} {i:Nat} {rest:List Nat} {o:Oper} {ao:cR} (hc:yV E.P N ops o=some ao) (ho:ops[i]?=some o) (hw:Region.wanted o (yielded ops a.tmps)=true)
  {zR:Out} {y:AS} (hs:zOp cx cl ao x = .ok zR y):DidA a o.dst E M0 w0 N μ w x (lone (fat b a (.inRegion ops (i::rest)::k)) cs w) b (.inRegion ops rest::k) cs zR y:=by
 obtain⟨Ex,hdst,_,hd⟩:=nJ hc;have Db:∀a v,(fat b a (.inRegion ops (i::rest)::k)).finish v=fat b (a.put o.dst v) (.inRegion ops rest::k):=fun a v=>by
  grind [nH]
 rcases cOp_kind Ex with⟨hdata,Es⟩|⟨c,f,l,hoc,Aw,hl,Dh⟩|⟨c,y',g,l,hoc,Aw,hg,hl,Dh⟩|⟨c,r,m,g,l,hoc,Aw,hg,hl,Dh⟩|⟨y',g,hoc,hg,Dh⟩|⟨c,y',g,l,hoc,Aw,hg,hl,Dh⟩|⟨c,hoc,Aw,Dh⟩
 · -- data
  rw[zOp_data hdata,hG]at hs;obtain⟨d,x',zZ,rfl,rfl⟩:=zval_inv hs;obtain⟨v,w',μ',hr,hv,hR,hf⟩:=op_sound h Ex zZ;obtain⟨Ge,Cb⟩:=step_r zZ;have hg:=mE (P:=E.P) (b:=b) (k:=k) (cs:=cs) (w:=w) (rest:=rest) ho hw (.inr Es);have Bp:=hR.put (dst:=o.dst) hd hv;rw[hdst];refine⟨a.put o.dst v,w',μ',.normal,Bp,uW _ _ _,?_,?_,rfl,?_⟩
  ·revert hf;cases o.dst<;>exact id
  ·revert Ge;cases o.dst<;>exact id
  ·refine .one (dK ?_)
   grind [pQ,rU]
 · -- a function
  obtain⟨dst,op,gd⟩:=ao;simp only at Dh hdst;subst Dh hdst;refine call_did h ho hw (by grind) hd hs fun fo s c' hr=>?_
  rw[hG]at hr;refine(wL Bo h.toS (args_ev h hl) hr).congr ?_;simp only[execOp,hoc,resolve,Aw,Act.eval,Deferred.ofValue,bJ,bV,aR,invoke,Array.empty_append,Array.append_empty]
 · -- a value
  obtain⟨dst,op,gd⟩:=ao;simp only at Dh hdst;subst Dh hdst;rw[show zOp cx cl ⟨o.dst,.callv g l,gd⟩ x=lY cx cl o.dst x (g.ev cx.G x.t) (evs l cx.G x.t) from rfl,wM,hG]at hs
  refine call_did h ho hw (by grind) hd hs fun fo s c' hr=>?_
  refine(raw_sound Bo hM h.toS (cW h hg) (args_ev h hl) hr).congr ?_;simp only[execOp,hoc,resolve,Aw]
 · -- a method
  obtain⟨dst,op,gd⟩:=ao;simp only at Dh hdst;subst Dh hdst;have hs':zo_inv m g l cx cl o.dst x = .ok zR y:=hs;unfold zo_inv at hs';rw[hG]at hs';split at hs'
  ·rename_i t v he;unfold callM at hs';cases hm:cx.M t m with
   | none=>simp_all
   | some f=>
    rw[hm]at hs';refine call_did h ho hw (by grind) hd hs' fun fo s c' hr=>?_
    have Vg:=cW h hg;rw[he]at Vg;refine(uH Bo hM h.toS (vals:=#[a.eval r]++c.args.map a.eval) ?_ hm hr #[]).congr ?_
    ·grind [Array.toList_append,bI.cons,args_ev]
    grind [execOp,resolve,bJ,bV,aR]
  ·cases hs'
 · -- a panic
  obtain⟨dst,op,gd⟩:=ao;simp only at Dh hdst;subst Dh hdst;have hs':zo_pan g cx cl o.dst x = .ok zR y:=hs;unfold zo_pan at hs';rw[hG]at hs';have hv:=cW h hg;split at hs'
  ·rename_i t v he;cases hs';rw[he]at hv;have Cu:=hv;simp only[aY]at hv;obtain⟨u,hu,_⟩:=hv;have Yj:=mE (P:=E.P) (b:=b) (k:=k) (cs:=cs) (w:=w) (rest:=rest) ho hw (.inr (by grind))
   refine⟨a,w,μ,.pan [{ v:=a.eval y',recovered:=false }],h,fun _ _=>rfl,Fr.refl _ _ _ _,rfl,⟨_,rfl,?_⟩,.inRegion ops (i::rest)::k,rfl,.one (dK ?_)⟩
   ·grind [jC]
   ·rw[Yj,←fat_raise];refine apply_panic ?_
    simp_all [execOp,Instr.panic,bJ]
  ·cases hs'
 · -- a deferred call
  obtain⟨dst,op,gd⟩:=ao;simp only at Dh hdst;subst Dh hdst;have hs':zo_dfr g l cx cl o.dst x = .ok zR y:=hs;unfold zo_dfr at hs';rw[hG]at hs';have hv:=cW h hg;split at hs'
  ·rename_i fn p q he;cases hr:x.r with
   | some nm=>simp_all
   | none=>
    rw[hr]at hs';have Az:R.ok Out.normal ⟨iO o.dst x.t .un,x.s,x.c,(.fn fn p q,evs l E.G x.t)::x.d,none⟩ = .ok zR y:=hs';cases Az;rw[he]at hv;have Cu:=hv;simp only[aY]at hv;obtain⟨va,vb,hu,_,_⟩:=hv;have Ko:b.roundOf=none:=by rw[hr]at Ai;exact Ai
    have Yj:=mE (P:=E.P) (b:=b) (k:=k) (cs:=cs) (w:=w) (rest:=rest) ho hw (.inl Ko)
    let df:Deferred:={ target:=.fn fn vb,args:=va++c.args.map a.eval }
    have hR:Rel E M0 w0 N μ { a with defers:=df::a.defers } w ⟨x.t,x.s,x.c,(.fn fn p q,evs l E.G x.t)::x.d,none⟩:=
     h.toS.frame h.n h.tm (by
      simp only[iR];exact⟨fn,va,vb,c.args.map a.eval,a.defers,by grind,args_ev h hl,rfl,h.defers⟩)
    refine⟨({ a with defers:=df::a.defers }:Act).put o.dst undef,w,μ,.normal,?_,fun n hn=>(uW _ _ _ n hn).trans rfl,Fr.refl _ _ _ _,hr.symm,rfl,?_⟩
    ·have:=hR.put (dst:=o.dst) (d:=.un) (v:=undef) hd (by simp only[aY])
     revert this;cases o.dst<;>exact id
    ·refine .one (dK ?_);rw[Yj,←Db];refine(apply_defer (d:=df) (w':=w) ?_).trans rfl
     grind [execOp,resolve,Deferred.ofValue,bJ,bV,aR]
  ·cases hs'
 · -- recover
  obtain⟨dst,op,gd⟩:=ao;simp only at Dh hdst;subst Dh hdst;cases hs
theorem op_did{cl:CL}{cx:Cx}(Bo:oF E cl)(hM:∀t n f,cx.M t n=some f→oT E.P t n=some f)(hG:cx.G=E.G)(h:Rel E M0 w0 N μ a w x)(Ai:gR b x.r μ)
  {ops:Array Oper} {i:Nat} {rest:List Nat} {o:Oper} {ao:cR} (hc:yV E.P N ops o=some ao) (ho:ops[i]?=some o) (hw:Region.wanted o (yielded ops a.tmps)=true)
  {zR:Out} {y:AS} (hs:zOp cx cl ao x = .ok zR y):Did E M0 w0 N μ w x (lone (fat b a (.inRegion ops (i::rest)::k)) cs w) b (.inRegion ops rest::k) cs zR y:=
 (op_didA Bo hM hG h Ai hc ho hw hs).did
end
section
variable {E:Env} {M0:Nat→Prop} {w0:World} {N:Nat} {μ:Mu} {M:Nat→Prop} {a:Act} {w:World} {x:AS} {b:Frame} {k:List Item} {cs:List Frame}
variable {m:Machine} {zR:Out} {ops:Array Oper}
theorem Did.bind{k1:List Item}{cs1:List Frame}{y z:AS}(h1:Did E M0 w0 N μ w x m b k1 cs1 .normal z) 
  (h2:∀a' w' μ',Rel E M0 w0 N μ' a' w' z→gJ μ μ'→z.r=x.r→Did E M0 w0 N μ' w' z (lone (fat b a' k1) cs1 w') b k cs zR y):Did E M0 w0 N μ w x m b k cs zR y:=by
 obtain⟨a1,w1,μ1,ou1,r1,f1,e1,o1,n1⟩:=h1;cases o1;obtain⟨a2,w2,μ2,ou2,r2,f2,e2,o2,n2⟩:=h2 a1 w1 μ1 r1 f1.mu e1;exact⟨a2,w2,μ2,ou2,r2,f1.trans f2,e2.trans e1,o2,n2.of_steps n1⟩
theorem OuRel.normal_iff{ou:Ou}(h:OuRel (Mm M0 μ) w μ zR ou)(hn:zR≠.normal):ou≠.normal:=by
 cases zR with
 | normal=>grind
 | exit i=>rw[show ou = .exit i from h];intro e;cases e
 | ret=>rw[show ou = .ret from h];intro e;cases e
 | pan c=>obtain⟨ch,rfl,_⟩:=h;grind
theorem Did.pass{it:Item}{y:AS}(hx:∀id,iE id (it::k)=iE id k)(hn:zR≠.normal)(h:Did E M0 w0 N μ w x m b (it::k) cs zR y):
  Did E M0 w0 N μ w x m b k cs zR y:=by
 obtain⟨a1,w1,μ1,ou1,r1,f1,e1,o1,n1⟩:=h;exact⟨a1,w1,μ1,ou1,r1,f1,e1,o1,n1.pass hx (o1.normal_iff hn)⟩
theorem zbind_inv{r:R}{f:AS→R}{y:AS}(h:zbind r f = .ok zR y):∃o z,r = .ok o z∧((o = .normal∧f z = .ok zR y)∨(o≠.normal∧zR=o∧y=z)):=by
 cases r with
 | no=>cases h
 | ok o z=>
  refine⟨o,z,rfl,?_⟩;cases o with
  | normal=>exact .inl ⟨rfl,h⟩
  | exit i=>have h':R.ok (.exit i) z = .ok zR y:=h;cases h';exact .inr ⟨nofun,rfl,rfl⟩
  | ret=>have h':R.ok .ret z = .ok zR y:=h;cases h';exact .inr ⟨nofun,rfl,rfl⟩
  | pan c=>have h':R.ok (.pan c) z = .ok zR y:=h;cases h';exact .inr ⟨nofun,rfl,rfl⟩
theorem Did.zbind{it:Item}{r:R}{f:AS→R}{y:AS}(hx:∀id,iE id (it::k)=iE id k)(hs:zbind r f = .ok zR y) 
  (h1:∀o z,r = .ok o z→Did E M0 w0 N μ w x m b (it::k) cs o z)
  (h2:∀z a' w' μ',Rel E M0 w0 N μ' a' w' z→gJ μ μ'→z.r=x.r→f z = .ok zR y→Did E M0 w0 N μ' w' z (lone (fat b a' (it::k)) cs w') b k cs zR y) :
  Did E M0 w0 N μ w x m b k cs zR y:=by
 grind [zbind_inv,bind,pass]
theorem tmp_bool(h:Rel E M0 w0 N μ a w x){g:Nat}{c:Bool}(hg:tget x.t g = .bool c):a.tmps[g]?=some (.bool c):=by
 have:=h.tm g;rw[hg]at this;simp only[aY]at this;rw[gV]at this
 grind [undef]
theorem tmp_skip(h:Rel E M0 w0 N μ a w x){g:Nat}(hg:tget x.t g = .tup []):a.tmps[g]?=none∨a.tmps[g]?=some (.tuple #[]):=by
 have:=h.tm g;rw[hg]at this;simp only[aY]at this;obtain⟨vs,hv,hr⟩:=this;simp only[bI]at hr;rw[gV]at hv
 grind [Array.toList_eq_nil_iff]
theorem kC(h:Rel E M0 w0 N μ a w x){o:Oper}{ao:cR}(hg:cGuard ops o.guard=some ao.guard){c:Bool}(hs:wanted ao x=some c):
  Region.wanted o (yielded ops a.tmps)=c:=by
 unfold wanted at hs;cases Gx:o.guard with
 | none=>
  grind [cGuard,aD,Region.wanted]
 | some p=>
  obtain⟨j,want⟩:=p;rw[Gx]at hg;simp only[cGuard,aC,aB,aD]at hg;obtain⟨oj,hoj,t,ht,hg⟩:=hg;rw[←hg]at hs;dsimp only at hs;split at hs
  ·rename_i d hd;cases hs;have hy:yielded ops a.tmps j=some d:=by simp[yielded,hoj,ht,tmp_bool h hd]
   grind [Region.wanted]
  all_goals grind [yielded,tmp_skip,Region.wanted]
theorem zOps_cons(cx:Cx)(cl:CL)(o:cR)(r:List cR)(x:AS):lM cx cl (o::r) x=match wanted o x with
  | none=>.no
  | some true=>zbind (zOp cx cl o x) (lM cx cl r)
  | some false=>lM cx cl r (x.put o.dst (.tup [])):=by
 show Option.rec (motive:=fun _=>R) .no (uR o (fun cx cl x=>lM cx cl r x) cx cl x) (wanted o x)=_
 cases wanted o x with
 | none=>rfl
 | some c=>
  cases c with
  | true=>rfl
  | false=>
   obtain⟨dst,op,g⟩:=o;cases dst<;>rfl
theorem put_r(x:AS)(dst:Option Nat)(d:D):(x.put dst d).r=x.r∧(x.put dst d).s=x.s:=by cases dst<;>exact⟨rfl,rfl⟩
theorem ops_did{cl:CL}{cx:Cx}(Bo:oF E cl)(hM:∀t n f,cx.M t n=some f→oT E.P t n=some f)(hG:cx.G=E.G):
  ∀{l:List Oper} {Ic:List Nat} {az:List cR} {μ:Mu} {a:Act} {w:World} {x:AS},Rel E M0 w0 N μ a w x→gR b x.r μ→Ic.map (ops[·]?)=l.map some→lZ E.P N ops l=some az →
   ∀{zR:Out} {y:AS},lM cx cl az x = .ok zR y→Did E M0 w0 N μ w x (lone (fat b a (.inRegion ops Ic::k)) cs w) b k cs zR y:=by
 intro l
 induction l with
 | nil=>
  intro Ic az μ a w x h Ai hi hc zR y hs;simp only[dU,List.map_eq_nil_iff]at hi;subst hi;simp only[lZ,aD]at hc;subst hc;have hs':R.ok .normal x = .ok zR y:=hs;cases hs';exact⟨a,w,μ,.normal,h,Fr.refl _ _ _ _,rfl,rfl,.one lI⟩
 | cons o l ih=>
  intro Ic az μ a w x h Ai hi hc zR y hs;cases Ic with
  | nil=>cases hi
  | cons i rest=>
   simp only[bS,List.cons.injEq]at hi;obtain⟨Iy,hi⟩:=hi;simp only[lZ,aC,aB,aD]at hc;obtain⟨ao,Dh,r,hr,rfl⟩:=hc;rw[zOps_cons]at hs;obtain⟨Ex,hdst,Gx,hd⟩:=nJ Dh;cases Ns:wanted ao x with
   | none=>grind
   | some c=>
    have hw:=kC h Gx Ns;rw[Ns]at hs;cases c with
    | true=>
     exact Did.zbind (it:=.inRegion ops rest) (fun _=>rfl) hs (fun o' z hz=>op_did Bo hM hG h Ai Dh Iy hw hz)
      (fun z a' w' μ' g1 g2 g3 hf=>ih g1 (by rw[g3];exact Ai.mono g2) hi hr hf)
    | false=>
     have Bp:Rel E M0 w0 N μ (a.put o.dst undef) w (x.put ao.dst (.tup [])):=by
      rw[hdst];exact h.put hd (by simp only[aY];exact⟨#[],rfl,rfl⟩)
     have zZ:=lT (P:=E.P) (b:=b) (a:=a) (k:=k) (cs:=cs) (w:=w) (ops:=ops) (i:=i) (rest:=rest) (by simp[Iy,hw])
     simp only[Iy,bE]at zZ;have hD:=ih Bp (by grind [put_r]) hi hr hs
     refine Did.of_steps (.one zZ) ?_;obtain⟨a',w',μ',ou,h1,h2,h3,h4,h5⟩:=hD;exact⟨a',w',μ',ou,h1,by revert h2;cases ao.dst<;>exact id,h3.trans (put_r x _ _).1,h4,h5⟩
theorem region_did{cl:CL}{cx:Cx}(Bo:oF E cl)(hM:∀t n f,cx.M t n=some f→oT E.P t n=some f)(hG:cx.G=E.G){az:List cR}(h:Rel E M0 w0 N μ a w x)(Ai:gR b x.r μ) 
  (hc:lZ E.P N ops ops.toList=some az) {id:Nat} {zR:Out} {y:AS} (hs:lM cx cl az x = .ok zR y) :
  Did E M0 w0 N μ w x (lone (fat b a (.code (.region id ops false)::k)) cs w) b k cs zR y:=by
 refine Did.of_steps (.one rM) (ops_did Bo hM hG h Ai ?_ hc hs);apply List.ext_getElem?
 grind
end
def qP(P:Program)(μ:Mu)(M:Nat→Prop)(w:World)(v:Nat→D)(blk:Blk)(r:Result Next):Prop:=
 ∃u w' Re cap,r = .ok (.value u) w'∧w'.heap=w.heap.push Re∧vJ w w' ∧
  ∀(M':Nat→Prop) (Dq:World) (μ':Mu) (nm:Nat),Ext M w M' Dq→gJ μ μ'→μ' nm=some ⟨some w.heap.size,cap⟩ →
   aY M' Dq μ' (v nm) u∧(M' w.heap.size→Dq.heap[w.heap.size]?=some Re→rV P M' Dq μ' nm blk)
section
variable {E:Env} {M0:Nat→Prop} {w0:World} {N:Nat} {μ:Mu} {M:Nat→Prop} {a:Act} {w:World} {x:AS}
variable {e:TypeId} {blk:Blk}
theorem al_new(h:Rel E M0 w0 N μ a w x){ar:Arg}{v:Value}(hv:aY (Mm M0 μ) w μ (ar.ev E.G x.t) v){vf:Nat→D} 
  (hs:dC E.G (.new (e+1) ar) x.t=some (vf,blk)) {s:Sem Value} (zV:s.run E.P w = .ok (.pointer (some ⟨w.heap.size,0,none⟩)) { w with heap:=w.heap.push (.cells v.cells e) }) :
  qP E.P μ (Mm M0 μ) w vf blk ((do pure (.value (←s)):Sem Next).run E.P w):=by
 simp only[dC]at hs;split at hs
 ·rename_i cs Fc;cases hs;have hr:=mF Fc hv;refine⟨_,_,.cells v.cells e,cs.length,bU zV,rfl,⟨rfl,rfl⟩,fun M' Dq μ' nm hx Ik hm=>⟨?_,fun hM hb=>⟨_,_,_,_,_,hm,rfl,rfl,hM,hb,thaw0 _,bI.mono hx _ _ Ik hr,fun k hk=>by grind⟩⟩⟩
  grind [aY]
 ·cases hs
theorem al_bsl(h:Rel E M0 w0 N μ a w x){t:TypeId}{len s:Nat}{ps:Array (Nat×Operand)}{zd:D}{zc:List D}(hu:E.P.underlying t=some (.slice e))(Ae:iN E.P e=some s) 
  (hz:iX E.P e=some zd) (Ri:zd.cells?=some zc) (Ac:Nat.ble (len*s) 16777216=true) (Ji:Nat.beq zc.length s=true) {l:List (Nat×Nat×Arg)}
  (hl:ps.toList.mapM (fun(p:Nat×Operand)=>do
    let a ←dI p.2
    some (p.1*s,s,a))=some l) {v:Nat→D} {blk:Blk}
  (hs:dC E.G (.bsl len s (xT len s zc) l) x.t=some (v,blk)):qP E.P μ (Mm M0 μ) w v blk ((do pure (.value (←Instr.buildSlice t len (ps.map fun(i,x)=>(i,a.eval x)))):Sem Next).run E.P w):=by
 simp only[dC,aT]at hs;obtain⟨zR,ho,he⟩:=hs;cases he;have Jh:=bH Ji;have Dm:=cU Ac;simp only[iX,aC,aB]at hz;obtain⟨i,hi,v,hv,hz⟩:=hz;have Gc:=mF Ri (kS (M0:=M0) (w:=w) (μ:=μ) _ _ _ hz)
 let zs:Array Value:=if len*s=0 then #[]else v.cells
 have Ho:bI (Mm M0 μ) w μ (xT len s zc) ((Array.range (len*s)).map fun i=>zs[i % zs.size]!).toList:=by
  unfold xT;by_cases h0:len*s=0
  ·simp_all [bI.nil]
  ·grind [jH,wX]
 obtain⟨Cn,hfill,hr⟩:=uB h (fun i=>some (i*s,s)) _ (fun p q hq=>by
  grind [aC,aB,aD]) ps.toList l hl _ zR _ Ho ho
 have Kq:zR.length=len*s:=by
  have Er:∀(l:List (Nat×Nat×D)) (cs zR:List D),place cs l=some zR→zR.length=cs.length:=by
   intro l
   induction l with
   | nil=>grind [place]
   | cons p l ih=>
    grind [place,Nat.beq,Nat.ble,jA]
  rw[Er _ _ _ ho];unfold xT;by_cases h0:len*s=0
  ·rw[h0];simp
  ·simp_all [jH,rep]
 refine⟨.slice (some ⟨w.heap.size,0,none⟩) len len,{ w with heap:=w.heap.push (.cells Cn e) },.cells Cn e,zR.length,bU ?_,rfl,⟨rfl,rfl⟩,fun M' Dq μ' nm hx Ik hm=>⟨?_,fun hM hb=>⟨_,_,_,_,_,hm,rfl,rfl,hM,hb,thaw0 _,bI.mono hx _ _ Ik hr,fun k hk=>by omega⟩⟩⟩
 ·have hp:(ps.map fun(p:Nat×Operand)=>(p.1,a.eval p.2)).toList=ps.toList.map fun p=>(p.1,a.eval p.2):=by simp
  have Sh:¬len*s>2 ^ 24:=by omega
  simp only[Instr.buildSlice,bJ,bL hu,aR,eB Ae,Sh,iV];rw[show(ps.map fun(x:Nat×Operand)=>match x with|(i,x)=>(i,a.eval x))=ps.map fun p=>(p.1,a.eval p.2) from rfl,hp]
  by_cases h0:len*s=0
  ·have Hk:zs = #[]:=aS h0
   simp_all [bJ,bV,aR,newRow]
  ·have Hk:zs=v.cells:=aG h0
   simp_all [bJ,bV,aR,zeroValue,eZ,newRow]
 grind [aY]
theorem al_mks(h:Rel E M0 w0 N μ a w x){t:TypeId}{i:TypeInfo}{zd:D}{zc:List D}(hu:E.P.underlying t=some (.slice e))(hi:E.P.info? e=some i) 
  (hz:iX E.P e=some zd) (Ri:zd.cells?=some zc) (Ji:Nat.beq zc.length i.size=true) {o p:Operand} {lr cr:Arg} (h2:dI o=some lr) (h3:dI p=some cr) {vf:Nat→D} {blk:Blk}
  (hs:dC E.G (.mks i.size i.bytes zc lr cr) x.t=some (vf,blk)):qP E.P μ (Mm M0 μ) w vf blk ((do pure (.value (←Instr.makeSlice t (a.eval o) (a.eval p))):Sem Next).run E.P w):=by
 have hv:=cW h h2;have hp:=cW h h3;simp only[dC]at hs;split at hs
 ·rename_i k l j c Ms Ip;rw[Ms]at hv;rw[Ip]at hp;simp only[aY]at hv hp;split at hs
  ·rename_i zT;obtain⟨c1,c2,c3,c4⟩:=zT;cases hs;have Jh:=bH Ji;simp only[iX,aC,aB]at hz;obtain⟨i',Bs,v,Cu,hz⟩:=hz;rw[hi]at Bs;cases Bs;have Gc:=mF Ri (kS (M0:=M0) (w:=w) (μ:=μ) _ _ _ hz);have wl:IntKind.i64.wrap l=l:=by rw[←kX];exact kW (by omega) (by grind [hiK])
   have wc:IntKind.i64.wrap c=c:=by rw[←kX];exact kW (by omega) (by grind [hiK])
   let n:=c.toNat*i.size
   let zs:Array Value:=if n=0 then #[]else v.cells
   have Ho:bI (Mm M0 μ) w μ (rep c.toNat zc) ((Array.range n).map fun k=>zs[k % zs.size]!).toList:=by
    by_cases h0:n=0
    ·have e0:(rep c.toNat zc)=[]:=by
      apply eM;simp[rep,Jh];simpa[n]using h0
     grind [bI.nil]
    ·grind [wX]
   refine⟨.slice (some ⟨w.heap.size,0,none⟩) l.toNat c.toNat,{ w with heap:=w.heap.push (.cells ((Array.range n).map fun k=>zs[k % zs.size]!) e) },.cells ((Array.range n).map fun k=>zs[k % zs.size]!) e,(rep c.toNat zc).length,bU ?_,rfl,⟨rfl,rfl⟩,fun M' Dq μ' nm hx Ik hm=>⟨?_,fun hM hb=>⟨_,_,_,_,_,hm,rfl,rfl,hM,hb,thaw0 _,bI.mono hx _ _ Ik Ho,fun k hk=>by omega⟩⟩⟩
   ·have Dl:((decide (c<0)||decide ((i.bytes:Int)*c>2 ^ 48))||decide (l<0)||decide (l>c))=false:=by
     simp only[Bool.or_eq_false_iff,cD];refine⟨⟨⟨by omega,by omega⟩,by omega⟩,by omega⟩
    simp only[Instr.makeSlice,hv,hp,asInt,asIntOf,bJ,bL hu,aR,bV,eZ hi,wl,wc];rw[aG (by rw[Dl];simp)]
    simp only[bJ,aR,run_askRoom,eB (show iN E.P e=some i.size by simp[iN,hi]),bV]
    rw[show c.toNat*i.size=n from rfl]
    by_cases h0:n=0
    ·have Hk:zs = #[]:=aS h0
     simp_all [newRow]
    ·have Hk:zs=v.cells:=aG h0
     simp_all [newRow,zeroValue,eZ]
   ·simp only[aY];exact⟨_,_,hm,rfl,rfl,by omega,by simp[rep,Jh]⟩
  ·cases hs
 ·cases hs
theorem alloc_res0(h:Rel E M0 w0 N μ a w x){o:Oper}{ao:AOp}(hc:yW E.P o=some ao){v:Nat→D}(hs:dC E.G ao x.t=some (v,blk)):
  qP E.P μ (Mm M0 μ) w v blk ((execOp a.eval o).run E.P w):=by
 have Wi:∀op,o.op=op→qP E.P μ (Mm M0 μ) w v blk ((execOp a.eval o).run E.P w):=by
  intro op ho;have Bw:=hc;simp only[yW,ho]at hc;cases op<;>(try simp only[reduceCtorEq]at hc)
  case alloc t=>
   simp only[aC,aB,aD]at hc;obtain⟨zd,hz,rfl⟩:=hc;simp only[iX,aC,aB]at hz;obtain⟨i,hi,v,hv,hz⟩:=hz;simp only[execOp,ho];refine al_new (v:=v) (e:=t) h (by simp only[Arg.ev];exact kS _ _ _ hz) hs ?_
   simp[Instr.alloc,zeroValue,eZ hi,hv,newVar,newRow]
  case box t y=>
   simp only[aC,aB,aD]at hc;obtain⟨ar,h2,rfl⟩:=hc;simp only[execOp,ho];refine al_new (v:=a.eval y) (e:=t) h (cW h h2) hs ?_;simp[Instr.box,newVar,newRow]
  case buildSlice t len ps=>
   simp only[execOp,ho];split at hc
   ·rename_i e hu;simp only[aC,aB]at hc
    grind [Nat.ble,Nat.beq,aD,al_bsl]
   ·cases hc
  case makeSlice t l c=>
   simp only[execOp,ho];split at hc
   ·rename_i e hu;simp only[aC,aB]at hc
    grind [Nat.beq,aD,al_mks]
   ·cases hc
  case makeMap t r=>
   cases r with
   | some r=>grind
   | none=>
    simp only[aD]at hc;subst hc;simp only[dC,aD,eO]at hs;obtain⟨rfl,rfl⟩:=hs;simp only[execOp,ho];refine⟨.map (some w.heap.size),{ w with heap:=w.heap.push (.map #[] 0) },.map #[] 0,0,bU ?_,rfl,⟨rfl,rfl⟩,fun M' Dq μ' nm hx Ik hm=>⟨?_,fun hM hb=>⟨_,_,_,hm,rfl,hM,hb,by simp[MEs]⟩⟩⟩
    ·simp[Instr.makeMap,newObj,Sem.run]
    ·simp only[aY];exact⟨_,_,hm,rfl,rfl⟩
  all_goals
   exfalso;have hk:ao.kd≠1:=by
    clear hs;revert hc;intro hc
    repeat' (first|contradiction|(cases hc;exact(by decide))|(split at hc)|(simp only[aC,aB,aD,cond_eq_ite]at hc)|(obtain⟨_,_,hc⟩:=hc))
    all_goals (intro hh;cases hh)
   have:ao.kd=1:=by
    unfold dC at hs;split at hs<;>first|rfl|cases hs
   exact hk this
 grind
theorem alloc_res(h:Rel E M0 w0 N μ a w x){o:Oper}{ao:AOp}(hc:cOp E.P o=some ao){v:Nat→D}(hs:dC E.G ao x.t=some (v,blk)):
  qP E.P μ (Mm M0 μ) w v blk ((execOp a.eval o).run E.P w):=by
 unfold cOp at hc;split at hc
 ·rename_i op he;cases hc;rcases(cExt_kind he).1 with⟨k,l,rfl⟩|⟨k,l,rfl⟩<;>cases hs
 grind [alloc_res0]
theorem Rel.restrict(h:Rel E M0 w0 N μ a w x){x':AS}(ht:∀n,tget x'.t n=tget x.t n∨tget x'.t n = .un)(hs:∀nm blk,sget x'.s nm=some blk→μ nm≠none→sget x.s nm=some blk) 
  (hc:x.c≤x'.c) (hd:x'.d=x.d):Rel E M0 w0 N μ a w x':=
 {h with
  defers:=by rw[hd];exact h.defers
  tm:=fun n=>by
   rcases ht n with e|e
   ·rw[e];exact h.tm n
   grind [aY]
  st:=fun nm blk l hl hb=>h.st nm blk l hl (hs nm blk hb (by rw[hl];simp))
  lt:=fun nm l hl=>bY (h.lt nm l hl) hc
  inj:=fun n m l l' b h1 h2 e1 e2=>by
   obtain⟨b1,Cj⟩:=eP.1 h1;obtain⟨b2,Bb⟩:=eP.1 h2;exact h.inj n m l l' b (by grind) (by grind) e1 e2 }
theorem Rel.lift(h:Rel E M0 w0 N μ a w x){s1:St}(Ax:∀nm blk,sget s1 nm=some blk→μ nm≠none→sget x.s nm=some blk){a':Act}{w':World}{μ':Mu}{x':AS} 
  (h':Rel E M0 w0 N μ' a' w' x') (hf:Fr x.c s1 μ w x'.c x'.s μ' w') {s2:St} {t2:Tm}
  (Az:∀nm blk,sget s2 nm=some blk→μ' nm≠none→sget x'.s nm=some blk∨(sget x.s nm=some blk∧μ nm≠none∧sget s1 nm=none))
  (ht:∀n,aY (Mm M0 μ') w' μ' (tget t2 n) (a'.tmps.getD n undef)):Rel E M0 w0 N μ' a' w' ⟨t2,s2,x'.c,x'.d,x'.r⟩∧Fr x.c x.s μ w x'.c s2 μ' w':=by
 have hx:Ext (Mm M0 μ) w (Mm M0 μ') w':=hf.ext;have Qc:∀b,Live s1 μ b→Live x.s μ b:=fun b ⟨nm,l,g1,g2,g3⟩=>by
  obtain⟨bk,hbk⟩:=eP.1 g1;exact⟨nm,l,by grind,g2,g3⟩
 -- a block outside of the part
 have Nj:∀nm blk l b,sget x.s nm=some blk→μ nm=some l→l.blk=some b→sget s1 nm=none→¬Live s1 μ b:=by
  intro nm blk l b g1 g2 g3 g4 ⟨Zo,l',e1,e2,e3⟩;obtain⟨bk,hbk⟩:=eP.1 e1;have:=h.inj nm Zo l l' b (by rw[g1];rfl) (by grind) g2 e2 g3 e3
  subst this;rw[g4]at e1;cases e1
 have old:∀nm,μ nm≠none→∃l,μ nm=some l∧μ' nm=some l:=fun nm hn=>by
  cases hl:μ nm with
  | none=>grind
  | some l=>exact⟨l,rfl,hf.mu _ _ hl⟩
 refine⟨{h' with
  tm:=ht
  st:=fun nm blk l hl hb=>by
   rcases Az nm blk hb (by rw[hl];simp) with e|⟨e1,e2,e3⟩
   ·exact h'.st nm blk l hl e
   ·obtain⟨l0,g1,g2⟩:=old nm e2;refine rV.mono hx hf.mu (fun l1 b1 k1 k2=>⟨?_,Mm.mono hf.mu⟩) (h.st nm blk l0 g1 e1)
    exact hf.same b1 (h.own nm l1 b1 k1 k2).2 (Nj nm blk l1 b1 e1 k1 k2 e3)
  lt:=h'.lt
  inj:=fun n m l l' b Pw s2' e1 e2 e3 e4=>by
   obtain⟨bn,Iu⟩:=eP.1 Pw;obtain⟨bm,hbm⟩:=eP.1 s2';rcases Az n bn Iu (by rw[e1];simp) with f1|⟨f1,f2,f3⟩<;>rcases Az m bm hbm (by rw[e2];simp) with k1|⟨k1,k2,k3⟩
   ·exact h'.inj n m l l' b (by rw[f1];rfl) (by rw[k1];rfl) e1 e2 e3 e4
   ·exfalso;obtain⟨l0,g1,g2⟩:=old m k2;rw[e2]at g2;cases g2;have hb:=(h.own m l' b g1 e4).2;exact Nj m bm l' b k1 g1 e4 k3 (hf.live b hb ⟨n,l,by rw[f1];rfl,e1,e3⟩)
   ·exfalso;obtain⟨l0,g1,g2⟩:=old n f2;rw[e1]at g2;cases g2;have hb:=(h.own n l b g1 e3).2;exact Nj n bn l b f1 g1 e3 f3 (hf.live b hb ⟨m,l',by rw[k1];rfl,e2,e4⟩)
   ·obtain⟨l0,g1,g2⟩:=old n f2;rw[e1]at g2;cases g2;obtain⟨l1,g3,g4⟩:=old m k2;rw[e2]at g4;cases g4;exact h.inj n m l l' b (by rw[f1];rfl) (by rw[k1];rfl) g1 g3 e3 e4 },⟨hf.size,fun b hb hn=>hf.same b hb fun hl=>hn (Qc b hl),fun b hb hl=>?_,hf.mu,hf.cle,hf.kept,hf.new⟩⟩
 obtain⟨nm,l,g1,g2,g3⟩:=hl;obtain⟨bk,hbk⟩:=eP.1 g1;rcases Az nm bk hbk (by rw[g2];simp) with e|⟨e1,e2,e3⟩
 ·exact Qc b (hf.live b hb ⟨nm,l,by rw[e];rfl,g2,g3⟩)
 ·obtain⟨l0,k1,k2⟩:=old nm e2;rw[g2]at k2;cases k2;exact⟨nm,l,by rw[e1];rfl,k1,g3⟩
theorem Rel.reserve(h:Rel E M0 w0 N μ a w x){nm:Nat}(hn:μ nm=none)(zQ:nm<x.c){Re:Obj}{cap:Nat}{w':World}(hw:w'.heap=w.heap.push Re)(he:vJ w w') 
  (hB:∀M' Dq μ',Ext (Mm M0 μ) w M' Dq→gJ μ μ'→μ' nm=some ⟨some w.heap.size,cap⟩→M' w.heap.size→Dq.heap[w.heap.size]?=some Re→rV E.P M' Dq μ' nm blk) :
  ∃μ',Rel E M0 w0 N μ' a w' { x with s:=sadd x.s nm blk }∧gJ μ μ'∧Ext (Mm M0 μ) w (Mm M0 μ') w'∧μ' nm=some ⟨some w.heap.size,cap⟩∧(∀n,n≠nm→μ' n=μ n) ∧
   (w.heap.size≤w'.heap.size∧(∀b,b<w.heap.size→w'.heap[b]?=w.heap[b]?)∧∀b,b<w.heap.size→Live (sadd x.s nm blk) μ' b→Live x.s μ b):=by
 let μ':=eD μ nm (some ⟨some w.heap.size,cap⟩)
 have hμ:∀n,n≠nm→μ' n=μ n:=fun n e=>by grind [eD]
 have Rf:μ' nm=some ⟨some w.heap.size,cap⟩:=by simp[μ',eD]
 have Ac:gJ μ μ':=fun n l hl=>by
  grind
 have Dy:∀b,b<w.heap.size→w'.heap[b]?=w.heap[b]?:=fun b hb=>by
  grind
 have Ae:w'.heap.size=w.heap.size+1:=by rw[hw];simp
 have Fv:∀b,b<w.heap.size→Nm μ' b→Nm μ b:=fun b Gm ⟨k,l,hl,Be⟩=>by
  by_cases hk:k=nm
  ·grind
  ·rw[hμ k hk]at hl;exact⟨k,l,hl,Be⟩
 have hx:Ext (Mm M0 μ) w (Mm M0 μ') w':=ext_mu (by omega) (fun b hb _=>Dy b hb) Ac Fv
 have hM:Mm M0 μ' w.heap.size:=.inr ⟨nm,_,Rf,rfl⟩;have hpush:w'.heap[w.heap.size]?=some Re:=by rw[hw];simp
 refine⟨μ',{h with
  size:=by have:=h.size;omega
  old:=fun b hb=>by rw[Dy b (bY hb h.size)];exact h.old b hb
  env:=⟨he.1.trans h.env.1,he.2.trans h.env.2⟩
  defers:=iR.mono hx Ac h.defers
  tm:=fun n=>aY.mono hx _ _ Ac (h.tm n)
  st:=fun k bk l hl hk=>by
   rw[aZ]at hk;by_cases e:k=nm
   ·grind
   ·rw[aG e]at hk;exact rV.mono hx Ac (fun l b hl Be=>⟨Dy b (h.own k l b hl Be).2,Mm.mono Ac⟩) (h.st k bk l (by grind) hk)
  lt:=fun k l hl=>by
   by_cases e:k=nm
   ·grind
   ·exact h.lt k l (by grind)
  own:=fun k l b hl Be=>by
   by_cases e:k=nm
   ·rw[e,Rf]at hl;cases hl;cases Be;exact⟨h.size,by omega⟩
   ·have:=h.own k l b (by grind) Be
    exact⟨this.1,by omega⟩
  inj:=fun n m l l' b s1 s2 e1 e2 e3 e4=>by
   rw[aZ]at s1 s2;by_cases en:n=nm<;>by_cases em:m=nm
   ·rw[en,em]
   ·rw[en,Rf]at e1;cases e1;cases e3;rw[hμ m em]at e2;have:=(h.own m l' _ e2 e4).2;omega
   ·rw[em,Rf]at e2;cases e2;cases e4;rw[hμ n en]at e1;have:=(h.own n l _ e1 e3).2;omega
   ·rw[aG en]at s1;rw[aG em]at s2;rw[hμ n en]at e1;rw[hμ m em]at e2;exact h.inj n m l l' b s1 s2 e1 e2 e3 e4 },Ac,hx,Rf,hμ,by omega,Dy,fun b hb hl=>?_⟩
 obtain⟨k,l,g1,g2,g3⟩:=hl;by_cases e:k=nm
 ·grind
 ·rw[aZ,aG e]at g1;exact⟨k,l,g1,by grind,g3⟩
end
variable {G:List (Nat×List D)} {t t':Tm}
theorem oV{a:Arg}(h:∀n∈a.tmps,tget t' n=tget t n):a.ev G t'=a.ev G t:=by
 cases a with
 | t n=>exact h n (by simp[Arg.tmps])
 | c d=>rfl
 | g n=>rfl
 | f n=>rfl
theorem evO_congr{a:Option Arg}(h:∀n∈mN a,tget t' n=tget t n):a.map (·.ev G t')=a.map (·.ev G t):=by
 cases a with
 | none=>rfl
 | some a=>exact congrArg some (oV h)
theorem evL_congr{l:List Arg}(h:∀n∈lV l,tget t' n=tget t n):l.map (·.ev G t')=l.map (·.ev G t):=
 List.map_congr_left fun a ha=>oV fun n hn=>h n (List.mem_flatMap.2 ⟨a,ha,hn⟩)
theorem parts_congr{l:List (Nat×Nat×Arg)}(h:∀n∈uY l,tget t' n=tget t n):parts G t' l=parts G t l:=
 List.map_congr_left fun p hp=>by
  rw[oV fun n hn=>h n (List.mem_flatMap.2 ⟨p,hp,hn⟩)]
theorem step_quiet{op:AOp}(hk:op.kd=0){x x':AS}{d:D}(h:step G op x=some (d,x')):x'=x:=by
 cases op<;>first
  | (simp[AOp.kd]at hk;done)
  | skip
 all_goals
  try simp only[stq,aC]at h
  repeat' (first|contradiction|(cases h;rfl)|(split at h)|(simp only[aB,aT,cond_eq_ite]at h)|(obtain⟨_,_,h⟩:=h))
theorem alloc_t{op:AOp}(h:∀n∈op.tmps,tget t' n=tget t n):dC G op t'=dC G op t:=by
 cases op<;>try rfl
 case new a=>
  have e0:a.ev G t'=a.ev G t:=oV fun n hn=>h n (by simp[AOp.tmps,hn])
  simp only[dC,e0]
 case bsl len sz cells ps=>
  have e0:parts G t' ps=parts G t ps:=parts_congr fun n hn=>h n (by simp[AOp.tmps,hn])
  simp only[dC,e0]
 case mks sz bytes zero l c=>
  have e0:l.ev G t'=l.ev G t:=oV fun n hn=>h n (by simp[AOp.tmps,hn])
  have e1:c.ev G t'=c.ev G t:=oV fun n hn=>h n (by simp[AOp.tmps,hn])
  simp only[dC,e0,e1]
def Sm(t t':Tm)(l:List Nat):Prop:=∀n∈l,tget t' n=tget t n
theorem sm_app(a b:List Nat):Sm t t' (a++b)↔Sm t t' a∧Sm t t' b:=by
 simp only[Sm,List.mem_append,or_imp,forall_and]
theorem step_t{op:AOp}(hk:op.kd=0){s:St}{c c':Nat}{dl dl':List (D×List D)}{r r':Option Nat}{v:D}(h:∀n∈op.tmps,tget t' n=tget t n) 
  (hs:step G op ⟨t,s,c,dl,r⟩=some (v,⟨t,s,c,dl,r⟩)):step G op ⟨t',s,c',dl',r'⟩=some (v,⟨t',s,c',dl',r'⟩):=by
 have E:∀a:Arg,Sm t t' a.tmps→a.ev G t'=a.ev G t:=fun a=>oV
 have O:∀a:Option Arg,Sm t t' (mN a)→a.map (·.ev G t')=a.map (·.ev G t):=fun a=>evO_congr
 have L:∀a:List Arg,Sm t t' (lV a)→a.map (·.ev G t')=a.map (·.ev G t):=fun a=>evL_congr
 have Q:∀a:List (Nat×Nat×Arg),Sm t t' (uY a)→parts G t' a=parts G t a:=fun a=>parts_congr
 replace h:Sm t t' op.tmps:=h;cases op<;>first
  | (simp[AOp.kd]at hk;done)
  | skip
 case' slV y=>cases y
 all_goals
  simp only[AOp.tmps,sm_app]at h;have h0:=h
  try simp only[show ∀m,mN (some m)=m.tmps from fun _=>rfl]at h0
  simp only[stq,aC,E,O,L,Q,h,h0]at hs ⊢;clear E O L Q h h0 hk
  repeat' (first|contradiction|(cases hs;rfl)|(simp only[cond_eq_ite]at hs ⊢;done)|(simp only[cond_eq_ite]at hs ⊢)|(simp only[aB,aT]at hs ⊢)|(obtain⟨p,hp,hs⟩:=hs;refine⟨p,hp,?_⟩)|(split at hs<;>first|contradiction|(rename_i zT;first|rw[aS zT]|rw[aG zT]|(simp only[zT]))|skip)|(cases hs;simp_all;done))
abbrev Ent:=Nat×Nat×cR
def yN(pre:List (Nat×cR)):List Nat:=(pre.filter fun p=>Nat.beq p.2.op.kd 2).map (·.1)
def wQ(n:Nat)(Am:List Nat)(az:List cR):List Ent→List (Nat×cR)→Prop
 | [],pre=>∀j,j<n→j∈pre.map (·.1)
 | (i,k,o)::r,pre=>az[i]?=some o∧i<n∧i∉pre.map (·.1)∧(∀j,(Am.getD i 0).testBit j=true→j∈pre.map (·.1)) ∧
   (o.op.kd=2→∀j∈pre.map (·.1),(Am.getD i 0).testBit j=true)∧(o.op.kd≠2→∀e∈(yN pre).drop k,(Am.getD i 0).testBit e=true) ∧
   (∀d,o.dst=some d→d∉o.tmps) ∧
   (∀p∈pre,(∀d,o.dst=some d→p.2.dst≠some d)∧((Am.getD i 0).testBit p.1=true∨((∀d,o.dst=some d→d∉p.2.tmps)∧∀d,p.2.dst=some d→d∉o.tmps))) ∧
   wQ n Am az r ((i,o)::pre)
theorem mskM_bit{o:cR}{t:Nat}(h:t∈o.tmps):(mskM o).testBit t=true:=by
 have key:∀(l:List Nat) (m:Nat),(m.testBit t=true∨t∈l)→(l.foldl (fun m t=>m ||| 2 ^ t) m).testBit t=true:=by
  intro l
  induction l with
  | nil=>grind
  | cons u l ih=>
   grind
 exact key _ 0 (.inr h)
theorem uE{o:cR}{d:Nat}(h:o.dst=some d):(dstM o).testBit d=true:=by
 simp[dstM,h,Nat.testBit_two_pow]
theorem zF{a b t:Nat}(h:Nat.beq (a&&&b) 0=true)(ha:a.testBit t=true)(hb:b.testBit t=true):False:=by
 have h':=bH h;have:=congrArg (fun m=>m.testBit t) h'
 grind
theorem xX(n:Nat)(Am:List Nat)(az:List cR):∀(l:List (Nat×Nat)) (dn:Nat) (Li:List Nat) (em:List (Nat×Nat×Nat)) (pre:List (Nat×cR)),
  (∀j,dn.testBit j=true↔j∈pre.map (·.1))→Li=yN pre→em=pre.map (fun p=>(p.1,dstM p.2,mskM p.2))→nS n Am az l dn Li em=true →
  wQ n Am az (dR l (l.filterMap fun p=>az[p.1]?)) pre∧(l.filterMap fun p=>az[p.1]?).length=l.length
 | [],dn,Li,em,pre,h1,_,_,h=>by
  simp only[nS]at h;have hd:=bH h;refine⟨fun j hj=>(h1 j).1 ?_,rfl⟩
  grind
 | (i,k)::r,dn,Li,em,pre,h1,h2,h3,h=>by
  simp only[nS]at h;cases ho:az[i]? with
  | none=>grind
  | some o=>
   rw[ho]at h;simp only[bW,Bool.not_eq_true']at h;obtain⟨g1,g2,g3,g4,g5,g6,g7⟩:=h;rw[Nat.blt_eq]at g1;have Ja:i∉pre.map (·.1):=fun hm=>by grind
   have Cg:∀j,(Am.getD i 0).testBit j=true→j∈pre.map (·.1):=fun j hj=>by
    grind [bH]
   have Ig:=xX n Am az r (dn ||| 2 ^ i) _ _ ((i,o)::pre) (fun j=>by
     grind) (by
     grind [yN,Nat.beq,cT]) (by simp[h3]) g7
   simp only[List.filterMap_cons,ho,dR,aO];refine⟨⟨ho,g1,Ja,Cg,fun hk j hj=>?_,fun hk e he=>?_,fun d hd hm=>zF g5 (uE hd) (mskM_bit hm),fun p hp=>?_,Ig.1⟩,by rw[Ig.2]⟩
   ·simp_all
   ·simp_all
   ·have hq:=(cF.1 g6) (p.1,dstM p.2,mskM p.2) (by grind)
    simp only[bW,Bool.or_eq_true]at hq;refine⟨fun d hd he=>zF hq.1 (uE hd) (uE he),?_⟩
    rcases hq.2 with e|⟨e1,e2⟩
    ·exact .inl e
    ·exact .inr ⟨fun d hd hm=>zF e1 (uE hd) (mskM_bit hm),fun d hd hm=>zF e2 (uE hd) (mskM_bit hm)⟩
def oG(l:List Ent):List (Nat×cR):=(l.map fun e=>(e.1,e.2.2)).reverse
theorem wQ.drop{n:Nat}{Am:List Nat}{az:List cR}:∀{l1 l2:List Ent} {pre:List (Nat×cR)},wQ n Am az (l1++l2) pre→wQ n Am az l2 (oG l1++pre)
 | [],_,_,h=>h
 | (i,k,o)::l1,l2,pre,h=>by
  obtain⟨_,_,_,_,_,_,_,_,h9⟩:=h;have:=wQ.drop (l1:=l1) (l2:=l2) h9
  grind [oG,List.reverse_cons,List.append_assoc]
structure Ev where
 i:Nat
 k:Nat
 o:cR
 hist:List St
 x:AS
 d:D
 nb:Option Blk
def Ev.ent(e:Ev):Ent:=(e.i,e.k,e.o)
inductive mH (cx:Cx) (cl:CL) (c0:Nat):List Ent→List St→AS→List Ev→Out→AS→Prop
 | nil {hist:List St} {x:AS}:mH cx cl c0 [] hist x [] .normal x
 | look {i k:Nat} {o:cR} {r:List Ent} {hist:List St} {x:AS} {d:D} {tr:List Ev} {zR:Out} {y:AS}:o.op.kd≠2 →
   ((wanted o x=some false∧d = .tup [])∨(wanted o x=some true∧o.op.kd=0∧step cx.G o.op x=some (d,x)∧∀s∈hist.take k,step cx.G o.op ⟨x.t,s,x.c,x.d,x.r⟩=some (d,⟨x.t,s,x.c,x.d,x.r⟩))) →
   mH cx cl c0 r hist ⟨iO o.dst x.t d,x.s,x.c,x.d,x.r⟩ tr zR y→mH cx cl c0 ((i,k,o)::r) hist x (⟨i,k,o,hist,x,d,none⟩::tr) zR y
 | alloc {i k:Nat} {o:cR} {r:List Ent} {hist:List St} {x:AS} {v:Nat→D} {b:Blk} {d:D} {tr:List Ev} {zR:Out} {y:AS}:o.op.kd=1→wanted o x=some true →
   dC cx.G o.op x.t=some (v,b)→(∀s∈x.s::hist.take k,sget s (c0+i)=none)→d=v (c0+i) →
   mH cx cl c0 r hist ⟨iO o.dst x.t d,sadd x.s (c0+i) b,x.c,x.d,x.r⟩ tr zR y→mH cx cl c0 ((i,k,o)::r) hist x (⟨i,k,o,hist,x,d,some b⟩::tr) zR y
 | act {i k:Nat} {o:cR} {r:List Ent} {hist:List St} {x z:AS} {d:D} {tr:List Ev} {zR:Out} {y:AS}:o.op.kd=2 →
   ((wanted o x=some false∧d = .tup []∧z=⟨iO o.dst x.t d,x.s,x.c,x.d,x.r⟩)∨(wanted o x=some true∧zOp cx cl o x = .ok .normal z∧z.t=iO o.dst x.t d∧z.d=x.d∧z.r=x.r)) →
   mH cx cl c0 r (x.s::hist) z tr zR y→mH cx cl c0 ((i,k,o)::r) hist x (⟨i,k,o,hist,x,d,none⟩::tr) zR y
 | pan {i k:Nat} {o:cR} {r:List Ent} {hist:List St} {x z:AS} {ch:Ch}:o.op.kd=2→wanted o x=some true→zOp cx cl o x = .ok (.pan ch) z→(∀f∈r,f.2.1=0) →
   mH cx cl c0 ((i,k,o)::r) hist x [⟨i,k,o,hist,x,.un,none⟩] (.pan ch) z
theorem sameD_eq:∀(n:Nat),(∀a b,xP n a b=true→a=b)∧(∀a b,oB n a b=true→a=b):=by
 intro n
 induction n with
 | zero=>
  grind [xP,oB]
 | succ n ih=>
  obtain⟨ih1,Zu⟩:=ih;refine⟨fun a b h=>?_,fun a b h=>?_⟩
  ·unfold xP at h
   grind [Nat.beq_eq,cT]
  ·cases a<;>cases b<;>simp only[oB,bW,cT]at h ⊢
   rw[ih1 _ _ h.1,Zu _ _ h.2]
theorem zOp_act{cx:Cx}{cl:CL}{o:cR}{x y:AS}{zR:Out}(hk:o.op.kd=2)(h:zOp cx cl o x = .ok zR y):
  y.d=x.d∧y.r=x.r∧(zR = .normal→∃d,y.t=iO o.dst x.t d)∧(zR = .normal∨∃ch,zR = .pan ch):=by
 have Qu:∀r,back o.dst x r = .ok zR y→y.d=x.d∧y.r=x.r∧(zR = .normal→∃d,y.t=iO o.dst x.t d)∧(zR = .normal∨∃ch,zR = .pan ch):=fun r hr=>by
  grind [back_inv]
 obtain⟨dst,op,g⟩:=o;cases op
 case call f l=>exact Qu _ h
 case callv c l=>
  rw[show zOp cx cl ⟨dst,.callv c l,g⟩ x=lY cx cl dst x (c.ev cx.G x.t) (evs l cx.G x.t) from rfl,wM]at h
  exact Qu _ h
 case inv m c l=>
  have h':zo_inv m c l cx cl dst x = .ok zR y:=h;unfold zo_inv at h';split at h'
  ·unfold callM at h';revert h';cases cx.M _ m with
   | none=>grind
   | some f=>grind
  ·cases h'
 case pan=>simp[AOp.kd]at hk
 case dfr=>simp[AOp.kd]at hk
 case rcv=>simp[AOp.kd]at hk
 all_goals
  rw[zOp_data (by trivial)]at h
  obtain⟨d,x',hs,rfl,rfl⟩:=zval_inv h;obtain⟨h1,h2⟩:=step_r hs;have ht:=step_tm hs;refine⟨by revert h2;cases dst<;>exact id,by revert h1;cases dst<;>exact id,fun _=>⟨d,?_⟩,.inl rfl⟩
  simp only;rw[←ht];cases dst<;>rfl
theorem nA{cx:Cx}{cl:CL}{c0:Nat}:∀{l:List Ent} {hist:List St} {x:AS} {zR:Out} {y:AS},sL cx cl c0 l hist x = .ok zR y→∃tr,mH cx cl c0 l hist x tr zR y
 | [],hist,x,zR,y,h=>by
  have h':R.ok .normal x = .ok zR y:=h;cases h';exact⟨[],.nil⟩
 | (i,k,o)::r,hist,x,zR,y,h=>by
  have h':mD cx cl c0 (i,k,o) r (sL cx cl c0 r) hist x = .ok zR y:=h;unfold mD at h';cases hw:wanted o x with
  | none=>grind
  | some c=>
   simp only[hw]at h';cases c with
   | false=>
    simp only at h';by_cases hk:o.op.kd=2
    ·rw[hk]at h';obtain⟨tr,ht⟩:=nA (hist:=x.s::hist) h';exact⟨_,.act hk (.inl ⟨hw,rfl,rfl⟩) ht⟩
    ·have hb:Nat.beq o.op.kd 2=false:=by
      cases hh:Nat.beq o.op.kd 2 with
      | false=>rfl
      | true=>exact absurd (bH hh) hk
     rw[hb]at h';obtain⟨tr,ht⟩:=nA (hist:=hist) h';exact⟨_,.look hk (.inl ⟨hw,rfl⟩) ht⟩
   | true=>
    simp only at h';split at h'
    ·rename_i hk;cases hs:step cx.G o.op x with
     | none=>grind
     | some p=>
      obtain⟨d,x'⟩:=p;have hx:=step_quiet hk hs;subst hx;simp only[hs]at h';cases hc:(hist.take k).all (bP cx.G o.op x' d)<;>rw[hc]at h'
      ·cases h'
      ·obtain⟨tr,ht⟩:=nA (hist:=hist) h';refine⟨_,.look (by omega) (.inr ⟨hw,hk,hs,fun s hs'=>?_⟩) ht⟩
       have:=(cF.1 hc) s hs';unfold bP at this;split at this
       ·rename_i p hp;obtain⟨d',x2⟩:=p;have e:d=d':=by
         rcases Bool.or_eq_true_iff.1 this with e|e
         ·exact(sameD_eq 1000).1 _ _ e
         ·grind
        grind [step_quiet]
       ·cases this
    ·rename_i hk;cases hs:dC cx.G o.op x.t with
     | none=>grind
     | some p=>
      obtain⟨v,b⟩:=p;simp only[hs]at h';cases hc:(x.s::hist.take k).all (fun s=>(sget s (c0+i)).isNone)<;>rw[hc]at h'
      ·cases h'
      ·obtain⟨tr,ht⟩:=nA (hist:=hist) h';exact⟨_,.alloc hk hw hs (fun s hs'=>by simpa using(cF.1 hc) s hs') rfl ht⟩
    ·rename_i hk;cases hz:zOp cx cl o x with
     | no=>grind
     | ok o' z=>
      simp only[hz]at h';obtain⟨h1,h2,h3,h4⟩:=zOp_act hk hz;rcases h4 with rfl|⟨ch,rfl⟩
      ·simp only at h';obtain⟨d,hd⟩:=h3 rfl;obtain⟨tr,ht⟩:=nA (hist:=x.s::hist) h';exact⟨_,.act hk (.inr ⟨hw,hz,hd,h1,h2⟩) ht⟩
      ·simp only at h';cases hc:r.all (fun f=>Nat.beq f.2.1 0)<;>rw[hc]at h'
       ·cases h'
       ·simp only[bG]at h';cases h';exact⟨_,.pan hk hw hz fun f hf=>by simpa using(cF.1 hc) f hf⟩
    ·cases h'
end Zv
