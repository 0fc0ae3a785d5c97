/- Data that are frozen, stores that are handed on, and calls: what is called does what the abstract call says. Conditions: none. -/
import Derived.Test.YtnpoohbeicakkaaGreatDoorZAE
set_option linter.unusedSimpArgs false
set_option linter.unusedVariables false
namespace Zv
open Go
section
variable {E:Env} {M0:Nat→Prop} {w0:World} {N:Nat} {μ:Mu} {M:Nat→Prop} {a:Act} {w:World} {x:AS}
theorem Rel.ext0(h:Rel E M0 w0 N μ a w x):Ext (Mm M0 μ) w M0 w:=
 ⟨aJ _,fun _ _ _=>rfl,fun b _ hm=>.inl hm⟩
theorem vF(h:Rel E M0 w0 N μ a w x){nm:Nat}{l:Loc}{b:Nat}(hl:μ nm=some l)(hb:l.blk=some b):¬M0 b:=fun hm=>by
 have:=h.m0lt b hm;have:=h.own nm l b hl hb;omega
theorem uD{f:D→Option D}{R R':D→Value→Prop}{cs ds:List D}{vs:List Value}(hm:cs.mapM f=some ds)(hl:vs.length=cs.length)
  (hr:∀(i:Nat) (c:D) (v:Value),cs[i]?=some c→vs[i]?=some v→R c v) (hf:∀c d v,c∈cs→f c=some d→R c v→R' d v) :
  vs.length=ds.length∧∀(i:Nat) (d:D) (v:Value),ds[i]?=some d→vs[i]?=some v→R' d v:=by
 obtain⟨h1,h2⟩:=lZ hm;refine⟨by omega,fun i d v hd hv=>?_⟩
 have hi:i<cs.length:=by
  rw[cH]at hd;obtain⟨h,_⟩:=hd;omega
 have hc:cs[i]?=some cs[i]:=aI hi;exact hf cs[i] d v (cB hi) (h2 i _ d hc hd) (hr i _ v hc hv)
theorem fr_rel(h:Rel E M0 w0 N μ a w x):∀(n:Nat) (d d':D) (v:Value),fr n x.s d=some d'→aP (Mm M0 μ) w μ d v→aP M0 w mu0 d' v:=by
 have hx:=h.ext0;have hpure:∀(d:D) (v:Value),d.pure=true→aP (Mm M0 μ) w μ d v→aP M0 w mu0 d v:=fun d v hp hv=>
  aP.mono hx d v (fV.refl _) (aP.pure d v hp hv)
 intro n
 induction n with
 | zero=>
  intro d d' v hf hv;simp only[fr]at hf;cases hp:d.pure<;>rw[hp]at hf
  ·cases hf
  ·cases hf;exact hpure d v hp hv
 | succ n ih=>
  intro d d' v hf hv;simp only[fr]at hf;cases hp:d.pure<;>rw[hp]at hf
  rotate_left
  ·cases hf;exact hpure d v hp hv
  simp only[cF]at hf;have lists:∀(cs ds:List D) (vs:List Value),cs.mapM (fr n x.s)=some ds→aX (Mm M0 μ) w μ cs vs→aX M0 w mu0 ds vs:=fun cs ds vs hm hr=>by
   obtain⟨h1,h2⟩:=uD (R:=aP (Mm M0 μ) w μ) (R':=aP M0 w mu0) hm hr.length (fun i c v hc hv=>hr.at hc hv) (fun c d v hc hf hr=>ih c d v hf hr)
   exact aX.mk h1 h2
  have cells:∀(b off:Nat) (cs ds:List D),cs.mapM (fr n x.s)=some ds→(∀(i:Nat) (e:D),cs[i]?=some e→∃v',w.cell? ⟨b,off+i,none⟩=some v'∧aP (Mm M0 μ) w μ e v')→iD M0 w b off ds:=by
   intro b off cs ds hm hc;obtain⟨h1,h2⟩:=lZ hm;refine iD.mk fun i d hd=>?_
   have hi:i<cs.length:=by
    rw[cH]at hd;obtain⟨h,_⟩:=hd;omega
   have hci:cs[i]?=some cs[i]:=aI hi;obtain⟨v',hv',hr⟩:=hc i _ hci;exact⟨v',hv',ih _ _ _ (h2 i _ d hci hd) hr⟩
  cases d<;>simp only[reduceCtorEq]at hf
  case agg cs=>
   simp only[aG]at hf;obtain⟨ds,hm,rfl⟩:=hf;simp only[aP]at hv ⊢;obtain⟨vs,rfl,hr⟩:=hv;exact⟨vs,rfl,lists _ _ _ hm hr⟩
  case tup cs=>
   simp only[aG]at hf;obtain⟨ds,hm,rfl⟩:=hf;simp only[aP]at hv ⊢;obtain⟨vs,rfl,hr⟩:=hv;exact⟨vs,rfl,lists _ _ _ hm hr⟩
  case iface t d=>
   simp only[aG]at hf;obtain⟨d',hd,rfl⟩:=hf;simp only[aP]at hv ⊢;obtain⟨y,rfl,hr⟩:=hv;exact⟨y,rfl,ih _ _ _ hd hr⟩
  case fn f p q=>
   simp only[aB,aA,aC]at hf;obtain⟨p',hp',q',hq',rfl⟩:=hf;simp only[aP]at hv ⊢;obtain⟨va,vb,rfl,h1,h2⟩:=hv;exact⟨va,vb,rfl,lists _ _ _ hp' h1,lists _ _ _ hq' h2⟩
  case ms nm off sz len cap=>
   simp only[aP]at hv;obtain⟨l,b,h1,h2,rfl,h3,h4⟩:=hv;have key:∀(blk:Blk) (cs:List D),sget x.s nm=some blk→dX blk=some cs →
     (bif Nat.ble (off+len*sz) cs.length then(((cs.drop off).take (len*sz)).mapM (fr n x.s)).map (D.sl (Nat.beq cap len) len) else none)=some d'→aP M0 w mu0 d' (.slice (some ⟨b,off,none⟩) len cap):=by
    intro blk cs hg hb hf;cases hle:Nat.ble (off+len*sz) cs.length<;>rw[hle]at hf
    ·cases hf
    simp only[aS,aG]at hf;obtain⟨ds,hm,rfl⟩:=hf;simp only[aP];obtain⟨_,_,_,hlt⟩:True∧True∧True∧b<w.heap.size:=by
     obtain⟨l',k1,_,k3⟩:=mQ h h1 hg hb;rw[h1]at k1;cases k1;exact⟨trivial,trivial,trivial,(k3 b h2).2.1⟩
    refine⟨_,_,rfl,h3,fun he=>aR he,.inr ⟨b,off,rfl,vF h h1 h2,hlt,?_⟩⟩
    refine cells b off _ _ hm (fun i e hi=>?_)
    rw[eL]at hi;split at hi
    ·exact tN h hg hb h1 h2 off i e hi
    ·cases hi
   split at hf
   ·rename_i cs hg;exact key _ cs hg rfl hf
   ·rename_i cs hg;exact key _ cs hg rfl hf
   ·cases hf
  case gs nm off sz len=>
   simp only[aP]at hv;obtain⟨⟨lb,lc⟩,cap,h1,rfl,h3,h4,h5⟩:=hv;split at hf
   ·rename_i cs hg;cases hle:Nat.ble (off+len*sz) cs.length<;>rw[hle]at hf
    ·cases hf
    simp only[aS,aG]at hf;obtain⟨ds,hm,rfl⟩:=hf;simp only[aP];refine⟨_,_,rfl,h3,(fun he=>by simp at he),?_⟩
    cases lb with
    | none=>have:=h5 rfl;left;omega
    | some b=>
     have hlt:b<w.heap.size:=by
      obtain⟨l',k1,_,k3⟩:=mQ h h1 hg rfl;rw[h1]at k1;cases k1;exact(k3 b rfl).2.1
     refine .inr ⟨b,off,rfl,vF h h1 rfl,hlt,cells b off _ _ hm (fun i e hi=>?_)⟩
     rw[eL]at hi;split at hi
     ·exact tN h hg rfl h1 rfl off i e hi
     ·cases hi
   ·cases hf
  case ptr nm off=>
   simp only[aP]at hv;obtain⟨l,b,h1,h2,rfl⟩:=hv;split at hf
   ·rename_i cs hg;simp only[aG]at hf;obtain⟨ds,hm,rfl⟩:=hf;have hlt:b<w.heap.size:=by
     obtain⟨l',k1,_,k3⟩:=mQ h h1 hg rfl;rw[h1]at k1;cases k1;exact(k3 b h2).2.1
    simp only[aP];refine⟨b,0,by simp,vF h h1 h2,hlt,cells b 0 _ _ hm (fun i e hi=>?_)⟩
    have:=tN h hg rfl h1 h2 0 i e (by simpa using hi)
    exact this
   ·cases hf
theorem frs_rel(h:Rel E M0 w0 N μ a w x){n:Nat}{ds az:List D}{vs:List Value}(hf:ds.mapM (fr n x.s)=some az)(hv:aX (Mm M0 μ) w μ ds vs):aX M0 w mu0 az vs:=by
 obtain⟨h1,h2⟩:=uD (R:=aP (Mm M0 μ) w μ) (R':=aP M0 w mu0) hf hv.length (fun i c v hc hv'=>hv.at hc hv') (fun c d v _ hf hr=>fr_rel h n c d v hf hr)
 exact aX.mk h1 h2
theorem Rel.globals0(h:Rel E M0 w0 N μ a w x):GRel E M0 w:=fun p hp=>by
 obtain⟨h1,h2,h3⟩:=h.glob p hp;have hx:Ext M0 w0 M0 w:=⟨h.size,fun b hb _=>h.old b hb,fun _ _ hm=>hm⟩
 exact⟨h1,bY h2 h.size,iD.mono hx p.1 h1 h2 p.2 0 h3⟩
theorem Rel.more(h:Rel E M0 w0 N μ a w x){w':World}(hs:w.heap.size≤w'.heap.size)(he:uP w w')(hb:∀b,b<w.heap.size→w'.heap[b]?=w.heap[b]?):
  Rel E M0 w0 N μ a w' x∧Fr x.c x.s μ w x.c x.s μ w':=by
 have hx:Ext (Mm M0 μ) w (Mm M0 μ) w':=⟨hs,fun b hlt _=>hb b hlt,fun _ _ hm=>hm⟩
 exact⟨{h with
  size:=fW h.size hs
  old:=fun b hlt'=>by rw[hb b (bY hlt' h.size)];exact h.old b hlt'
  env:=⟨he.1.trans h.env.1,he.2.trans h.env.2⟩
  defers:=iL.mono hx (fV.refl _) h.defers
  tm:=fun n=>aP.mono hx _ _ (fV.refl _) (h.tm n)
  own:=fun nm l b h1 h2=>⟨(h.own nm l b h1 h2).1,bY (h.own nm l b h1 h2).2 hs⟩
  st:=fun nm blk l hl hg=>rR.mono hx (fV.refl _) (fun l b hl hlb=>⟨hb b (h.own nm l b hl hlb).2,id⟩) (h.st nm blk l hl hg) },
  ⟨hs,fun b hlt _=>hb b hlt,fun _ _ hl=>hl,fV.refl _,aJ _,fun _ _ h=>h,nonew⟩⟩
def kU(E:Env)(M0:Nat→Prop)(w0:World)(μ:Mu)(w:World)(s:St)(c:Nat):Prop:=
 Rel E M0 w0 0 μ ⟨#[],[]⟩ w ⟨.ls [],s,c,[],none⟩
theorem wB(n:Nat):tget (.ls []:Tm) n = .un:=rfl
theorem Rel.toS(h:Rel E M0 w0 N μ a w x):kU E M0 w0 μ w x.s x.c:=
 {h with
  defers:=by simp only[iL]
  n:=dK _
  tm:=fun n=>by rw[wB];simp only[aP]
  st:=h.st
  lt:=h.lt
  inj:=h.inj }
theorem kU.frame{s:St}{c:Nat}(h:kU E M0 w0 μ w s c){t:Tm}{d:List (D×List D)}{r:Option Nat}(hn:N≤a.tmps.size)(ht:∀n,aP (Mm M0 μ) w μ (tget t n) (a.tmps.getD n undef))
  (hd:iL (Mm M0 μ) w μ d a.defers):Rel E M0 w0 N μ a w ⟨t,s,c,d,r⟩:=
 {h with
  defers:=hd
  n:=hn
  tm:=ht
  st:=h.st
  lt:=h.lt
  inj:=h.inj }
theorem kU.ext{s s':St}{c c':Nat}{μ':Mu}{w':World}(h:kU E M0 w0 μ w s c)(h':kU E M0 w0 μ' w' s' c')(hf:Fr c s μ w c' s' μ' w'):Ext (Mm M0 μ) w (Mm M0 μ') w':=hf.ext
theorem Rel.carry(h:Rel E M0 w0 N μ a w x){s':St}{c':Nat}{μ':Mu}{w':World}(h':kU E M0 w0 μ' w' s' c')(hf:Fr x.c x.s μ w c' s' μ' w'):
  Rel E M0 w0 N μ' a w' ⟨x.t,s',c',x.d,x.r⟩:=by
 have hx:=kU.ext h.toS h' hf;exact h'.frame h.n (fun n=>aP.mono hx _ _ hf.mu (h.tm n)) (iL.mono hx hf.mu h.defers)
end
def iW(M:Nat→Prop)(w:World)(μ:Mu):Ch→List PanicEntry→Prop
 | [],l=>l=[]
 | (d,r)::c,l=>∃v l',l={ v:=v,recovered:=r }::l'∧aP M w μ d v∧iW M w μ c l'
def FORel(M:Nat→Prop)(w:World)(μ:Mu):FO→Ending→Prop
 | .ret d,e=>∃v,e = .returned v∧aP M w μ d v
 | .pan c,e=>∃ch,e = .panicked ch∧iW M w μ c ch
def OuRel(M:Nat→Prop)(w:World)(μ:Mu):Out→Ou→Prop
 | .normal,o=>o = .normal
 | .exit i,o=>o = .exit i
 | .ret,o=>o = .ret
 | .pan c,o=>∃ch,o = .pan ch∧iW M w μ c ch
theorem iW.mono{M M':Nat→Prop}{w w':World}{μ μ':Mu}(hx:Ext M w M' w')(hm:fV μ μ'):∀{c:Ch} {l:List PanicEntry},iW M w μ c l→iW M' w' μ' c l
 | [],_,h=>by simpa only[iW]using h
 | (d,r)::c,_,h=>by
  simp only[iW]at h ⊢;obtain⟨v,l',rfl,h1,h2⟩:=h;exact⟨v,l',rfl,aP.mono hx _ _ hm h1,iW.mono hx hm h2⟩
def tT(E:Env)(M0:Nat→Prop)(w0:World)(μ:Mu)(w:World)(c:Nat)(s:St)(o:FO)(s':St)(c':Nat)(e:Ending)(w':World):Prop:=
 ∃μ',kU E M0 w0 μ' w' s' c'∧Fr c s μ w c' s' μ' w'∧FORel (Mm M0 μ') w' μ' o e
theorem tT.no{E:Env}{M0:Nat→Prop}{w0:World}{μ:Mu}{w:World}{c:Nat}{s:St}{o:FO}{s':St}{c':Nat}{w':World}:¬tT E M0 w0 μ w c s o s' c' .outgrown w':=by
 rintro⟨_,_,_,h⟩;cases o with
 | ret d=>obtain⟨v,h,_⟩:=h;cases h
 | pan c=>obtain⟨v,h,_⟩:=h;cases h
structure nH (E:Env) (cl:CL):Prop where
 fn:∀{M0:Nat→Prop} {w0:World} {μ:Mu} {w:World} {s:St} {c f:Nat} {args:List D} {vals:List Value} {o:FO} {s':St} {c':Nat},
  kU E M0 w0 μ w s c→aX (Mm M0 μ) w μ args vals→cl (.fn f) args s c = .ok o s' c'→callable E.P f=true∧Calls E.P f vals.toArray w (tT E M0 w0 μ w c s o s' c')
 yl:∀{M0:Nat→Prop} {w0:World} {μ:Mu} {w:World} {s:St} {c nm:Nat} {args:List D} {vals:List Value} {o:FO} {s':St} {c':Nat},
  kU E M0 w0 μ w s c→aX (Mm M0 μ) w μ args vals→cl (.yl nm) args s c = .ok o s' c'→∀loc l,μ nm=some loc→loc.blk=some l→nX E.P (Instr.yield l vals.toArray) w (tT E M0 w0 μ w c s o s' c')
def oD(P:Program)(t:Nat)(name:String):Option Nat:=do
 let i ←P.info? t
 let m ←i.methods.find? (·.name==name)
 bif m.path.isEmpty then match m.func,P.underlying t with
  | some (f,true),some (.pointer _)=>some f
  | some (_,false),some (.pointer _)=>none
  | some (f,false),some _=>some f
  | _,_=>none
 else none
theorem run_method{P:Program}{t:Nat}{name:String}{f:Nat}(h:oD P t name=some f)(n:Nat)(v:Value)(w:World):(method (n+1) t v name).run P w = .ok (f,v) w:=by
 simp only[oD,aB,aA]at h;obtain⟨i,hi,m,hm,h⟩:=h;cases hp:m.path.isEmpty<;>rw[hp]at h
 ·cases h
 have hpath:m.path = #[]:=by simpa using hp
 simp only[aS]at h;simp only[method,aY,eE hi,aM,hm,hpath,follow,bO];split at h
 ·rename_i g e hfn hu;cases h;simp only[hfn,receiverAt,aY,aZ hu,aM,Place.get,bO]
 ·cases h
 ·rename_i g td hnp hfn hu;cases h;simp only[hfn,receiverAt,aY,aZ hu,aM,Place.get,bO]
 ·cases h
def callRaw(cx:Cx)(cl:CL)(d:D)(args:List D)(s:St)(c:Nat):FR:=
 match d with
 | .fn (.func f) fs cs=>cl (.fn f) (fs++args++cs) s c
 | .fn (.method name) fs cs=>match fs++args,cs with
  | .iface t v::r,[]=>match cx.M t name with
   | some g=>cl (.fn g) (v::r) s c
   | none=>.no
  | _,_=>.no
 | .yl nm=>cl (.yl nm) args s c
 | _=>.no
theorem vN(cx:Cx)(cl:CL)(dst:Option Nat)(x:AS)(d:D)(args:List D):kN cx cl dst x d args=back dst x (callRaw cx cl d args x.s x.c):=by
 cases d with
 | fn f fs cap=>
  cases f with
  | method name=>
   simp only[kN,callRaw];generalize fs++args=l;cases l with
   | nil=>rfl
   | cons y r=>
    cases cap with
    | nil=>
     cases y with
     | iface t v=>
      simp only[callM];cases cx.M t name<;>rfl
     | _=>rfl
    | cons _ _=>cases y<;>rfl
  | _=>rfl
 | _=>rfl
theorem back_inv{dst:Option Nat}{x:AS}{r:FR}{out:Out}{y:AS}(h:back dst x r = .ok out y):
  ∃fo s c,r = .ok fo s c∧((∃d,fo = .ret d∧out = .normal∧y=⟨iI dst x.t d,s,c,x.d,x.r⟩)∨(∃ch,fo = .pan ch∧out = .pan ch∧y=⟨x.t,s,c,x.d,x.r⟩)):=by
 cases r with
 | no=>cases h
 | ok fo s c=>
  refine⟨fo,s,c,rfl,?_⟩;cases fo with
  | ret d=>
   have h':R.ok Out.normal ⟨iI dst x.t d,s,c,x.d,x.r⟩ = .ok out y:=h;cases h';exact .inl ⟨d,rfl,rfl,rfl⟩
  | pan ch=>
   have h':R.ok (Out.pan ch) ⟨x.t,s,c,x.d,x.r⟩ = .ok out y:=h;cases h';exact .inr ⟨ch,rfl,rfl,rfl⟩
section
variable {E:Env} {M0:Nat→Prop} {w0:World} {μ:Mu} {M:Nat→Prop} {w:World} {s:St} {c:Nat}
theorem wW{P:Program}{f:Nat}(h:callable P f=true)(args:Array Value)(w:World):(callFunc f args).run P w = .ok (.enter f args) w:=by
 unfold callable at h;split at h
 ·rename_i fn hfn;simp only[Bool.not_eq_true',Bool.or_eq_false_iff]at h;have hne:¬(fn.name == "runtime.NumGoroutine")=true:=by rw[h.1];simp
  simp only[callFunc,aY,run_program,aM,hfn,aD hne,h.2,cN,eV,bO]
 ·cases h
theorem vM{cl:CL}(hcl:nH E cl)(h:kU E M0 w0 μ w s c){f:Nat}{args:List D}{vals:Array Value}(ha:aX (Mm M0 μ) w μ args vals.toList){o:FO}{s':St}{c':Nat}
  (hr:cl (.fn f) args s c = .ok o s' c'):nX E.P (callFunc f vals) w (tT E M0 w0 μ w c s o s' c'):=by
 obtain⟨h1,h2⟩:=hcl.fn h ha hr;refine⟨_,_,_,wW h1 _ _,.enter _ _,fun c0 cs=>?_⟩
 have:=pY.of_calls h2 (fun _=>tT.no) c0 cs
 simpa using this
theorem nX.congr{P:Program}{s s':Sem Next}{w:World}{R:Ending→World→Prop}(h:nX P s w R)(he:s'.run P w=s.run P w):nX P s' w R:=by
 obtain⟨n,w1,fr0,h1,h2⟩:=h;exact⟨n,w1,fr0,he.trans h1,h2⟩
theorem tL{cl:CL}{cx:Cx}(hcl:nH E cl)(hM:∀t n f,cx.M t n=some f→oD E.P t n=some f)(h:kU E M0 w0 μ w s c){name:String}{t g:Nat}{d:D}{r:List D}
  {vals:Array Value} (ha:aX (Mm M0 μ) w μ (.iface t d::r) vals.toList) (hg:cx.M t name=some g) {o:FO} {s':St} {c':Nat} (hr:cl (.fn g) (d::r) s c = .ok o s' c') (cap:Array Value) :
  nX E.P (invoke (.fn (.method name) cap) vals) w (tT E M0 w0 μ w c s o s' c'):=by
 simp only[aX]at ha;obtain⟨v,vs,hvals,h1,h2⟩:=ha;simp only[aP]at h1;obtain⟨u,rfl,h1⟩:=h1;have hv:vals=(Value.iface t u::vs).toArray:=by
  apply Array.ext';simp[hvals]
 subst hv;have hm:=run_method (hM _ _ _ hg) (E.P.types.size+99) u w;refine(vM hcl h (vals:=(u::vs).toArray) (by simp only[aX];exact⟨u,vs,rfl,h1,h2⟩) hr).congr ?_
 simp only[invoke,List.getElem?_toArray,aT,callMethod,aY,run_program,aM,Made.depth];rw[show E.P.types.size+100=(E.P.types.size+99)+1 from rfl,hm]
 simp only[aM]
 congr 2
 apply Array.ext';simp
theorem raw_sound{cl:CL}{cx:Cx}(hcl:nH E cl)(hM:∀t n f,cx.M t n=some f→oD E.P t n=some f)(h:kU E M0 w0 μ w s c){d:D}{v:Value}(hd:aP (Mm M0 μ) w μ d v)
  {args:List D} {vals:Array Value} (ha:aX (Mm M0 μ) w μ args vals.toList) {o:FO} {s':St} {c':Nat} (hr:callRaw cx cl d args s c = .ok o s' c') :
  nX E.P (do let d ←Deferred.ofValue v vals;invoke d.target d.args) w (tT E M0 w0 μ w c s o s' c'):=by
 unfold callRaw at hr;split at hr
 ·rename_i f fs cap;simp only[aP]at hd;obtain⟨va,vb,rfl,h1,h2⟩:=hd;refine(vM hcl h (vals:=(va++vals)++vb) ?_ hr).congr ?_
  ·simp only[Array.toList_append];exact(h1.append ha).append h2
  ·simp only[Deferred.ofValue,aY,bO,aM,invoke]
 ·rename_i name fs cap;simp only[aP]at hd;obtain⟨va,vb,rfl,h1,h2⟩:=hd;split at hr
  ·rename_i t u r hfs;split at hr
   ·rename_i g hg;have hall:aX (Mm M0 μ) w μ (.iface t u::r) (va++vals).toList:=by
     rw[←hfs,Array.toList_append];exact h1.append ha
    exact(tL hcl hM h hall hg hr vb).congr (by simp only[Deferred.ofValue,aY,bO,aM])
   ·cases hr
  ·cases hr
 ·rename_i nm;simp only[aP]at hd;obtain⟨loc,b,h1,h2,rfl⟩:=hd;have:=hcl.yl h ha hr loc b h1 h2;refine this.congr ?_;simp only[Deferred.ofValue,aY,bO,aM,invoke,Array.empty_append]
 ·cases hr
end
theorem appD_r{x x':AS}{sz bytes ty:Nat}{a b d:D}(h:nG x sz bytes ty a b=some (d,x')):x'.r=x.r∧x'.d=x.d:=by
 unfold nG at h;simp only[aB,aA]at h;obtain⟨⟨ys,n⟩,_,h⟩:=h
 repeat' (first|contradiction|(cases h;exact⟨rfl,rfl⟩)|(split at h)|(simp only[aG,cond_eq_ite]at h)|(obtain⟨_,_,h⟩:=h))
theorem step_r{G:List (Nat×List D)}{op:AOp}{x x':AS}{d:D}(h:step G op x=some (d,x')):x'.r=x.r∧x'.d=x.d:=by
 cases op
 case app=>exact appD_r h
 all_goals
  simp only[stq,aB]at h
  repeat' (first|contradiction|(cases h;exact⟨rfl,rfl⟩)|(split at h)|(simp only[aA,aG,cond_eq_ite]at h)|(obtain⟨_,_,h⟩:=h))
theorem appD_tm{x x':AS}{sz bytes ty:Nat}{a b d:D}(h:nG x sz bytes ty a b=some (d,x')):x'.t=x.t:=by
 unfold nG at h;simp only[aB,aA]at h;obtain⟨⟨ys,n⟩,_,h⟩:=h
 repeat' (first|contradiction|(cases h;rfl)|(split at h)|(simp only[aG,cond_eq_ite]at h)|(obtain⟨_,_,h⟩:=h))
theorem step_tm{G:List (Nat×List D)}{op:AOp}{x x':AS}{d:D}(h:step G op x=some (d,x')):x'.t=x.t:=by
 cases op
 case app=>exact appD_tm h
 all_goals
  simp only[stq,aB]at h
  repeat' (first|contradiction|(cases h;rfl)|(split at h)|(simp only[aA,aG,cond_eq_ite]at h)|(obtain⟨_,_,h⟩:=h))
def AOp.data:AOp→Prop
 | .call ..=>False
 | .callv ..=>False
 | .inv ..=>False
 | .pan ..=>False
 | .dfr ..=>False
 | .rcv=>False
 | _=>True
theorem zOp_data{cx:Cx}{cl:CL}{ao:cR}{x:AS}(h:ao.op.data):zOp cx cl ao x=zval ao.dst (step cx.G ao.op x):=by
 obtain⟨dst,op,g⟩:=ao;cases op<;>first|rfl|exact h.elim
theorem zval_inv{dst:Option Nat}{r:Option (D×AS)}{out:Out}{y:AS}(h:zval dst r = .ok out y):∃d x',r=some (d,x')∧out = .normal∧y=x'.put dst d:=by
 cases r with
 | none=>cases h
 | some p=>
  obtain⟨d,x'⟩:=p;refine⟨d,x',rfl,?_⟩;have h':R.ok Out.normal ⟨iI dst x'.t d,x'.s,x'.c,x'.d,x'.r⟩ = .ok out y:=h;cases h';exact⟨rfl,by cases dst<;>rfl⟩
theorem cOp_kind0{P:Program}{o:Oper}{op:AOp}(h:xT P o=some op):
  (op.data∧∀c,o.op≠.defer c)∨(∃c f l,o.op = .call c∧c.callee = .value (.func f)∧lQ c.args=some l∧op = .call f l) ∨
  (∃c y g l,o.op = .call c∧c.callee = .value y∧cS y=some g∧lQ c.args=some l∧op = .callv g l) ∨
  (∃c r m g l,o.op = .call c∧c.callee = .invoke r m∧cS r=some g∧lQ c.args=some l∧op = .inv m g l) ∨
  (∃y g,o.op = .panic y∧cS y=some g∧op = .pan g) ∨
  (∃c y g l,o.op = .defer c∧c.callee = .value y∧cS y=some g∧lQ c.args=some l∧op = .dfr g l) ∨
  (∃c,o.op = .call c∧c.callee = .builtin .recover∧op = .rcv):=by
 cases ho:o.op
 case call c=>
  simp only[xT,ho]at h;cases hcal:c.callee with
  | value g=>
   rw[hcal]at h;cases g with
   | func g=>
    simp only[aB,aA]at h;obtain⟨fn,hfn,h⟩:=h;cases hcond:(fn.name == "runtime.NumGoroutine" || fn.body.isNone)<;>rw[hcond]at h
    ·simp only[cF,aA,aC]at h;obtain⟨l,hl,rfl⟩:=h;exact .inr (.inl ⟨c,g,l,rfl,hcal,hl,rfl⟩)
    ·obtain⟨_,_,h⟩:=h;cases h
   | _=>
    simp only[aB,aA,aC]at h;obtain⟨ar,h1,az,h2,rfl⟩:=h;exact .inr (.inr (.inl ⟨c,_,_,_,rfl,hcal,h1,h2,rfl⟩))
  | invoke r m=>
   rw[hcal]at h;simp only[aB,aA,aC]at h;obtain⟨ar,h1,az,h2,rfl⟩:=h;exact .inr (.inr (.inr (.inl ⟨c,_,_,_,_,rfl,hcal,h1,h2,rfl⟩)))
  | builtin b=>
   rw[hcal]at h;dsimp only at h;cases b
   case recover=>
    split at h
    all_goals first
     | contradiction
     | (cases h;exact .inr (.inr (.inr (.inr (.inr (.inr ⟨c,rfl,hcal,rfl⟩)))))) 
     | (rename_i e _ _;cases e;done)
     | cases h
   all_goals
    refine .inl ⟨?_,fun _ e=>by cases e⟩
    repeat' (first|contradiction|(cases h;trivial)|(split at h)|(simp only[aB,aA,aC,cond_eq_ite]at h)|(obtain⟨_,_,h⟩:=h))
 case panic y=>
  simp only[xT,ho,aB,aA,aC]at h;obtain⟨ar,h1,rfl⟩:=h;exact .inr (.inr (.inr (.inr (.inl ⟨_,_,rfl,h1,rfl⟩))))
 case defer c=>
  simp only[xT,ho]at h;split at h
  ·rename_i y hcal;simp only[aB,aA,aC]at h;obtain⟨ar,h1,az,h2,rfl⟩:=h;exact .inr (.inr (.inr (.inr (.inr (.inl ⟨c,_,_,_,rfl,hcal,h1,h2,rfl⟩)))))
  ·cases h
 all_goals
  refine .inl ⟨?_,fun _ e=>by cases e⟩
  simp only[xT,ho]at h
  repeat' (first|contradiction|(cases h;trivial)|(split at h)|(simp only[aB,aA,aC,cond_eq_ite]at h)|(obtain⟨_,_,h⟩:=h))
theorem cOp_kind{P:Program}{o:Oper}{op:AOp}(h:cOp P o=some op):
  (op.data∧∀c,o.op≠.defer c)∨(∃c f l,o.op = .call c∧c.callee = .value (.func f)∧lQ c.args=some l∧op = .call f l) ∨
  (∃c y g l,o.op = .call c∧c.callee = .value y∧cS y=some g∧lQ c.args=some l∧op = .callv g l) ∨
  (∃c r m g l,o.op = .call c∧c.callee = .invoke r m∧cS r=some g∧lQ c.args=some l∧op = .inv m g l) ∨
  (∃y g,o.op = .panic y∧cS y=some g∧op = .pan g) ∨
  (∃c y g l,o.op = .defer c∧c.callee = .value y∧cS y=some g∧lQ c.args=some l∧op = .dfr g l) ∨
  (∃c,o.op = .call c∧c.callee = .builtin .recover∧op = .rcv):=by
 unfold cOp at h;split at h
 ·rename_i op' he;cases h;obtain⟨hk,hd⟩:=cExt_kind he;refine .inl ⟨?_,hd⟩;rcases hk with⟨k,l,rfl⟩|⟨k,l,rfl⟩<;>trivial
 ·exact cOp_kind0 h
theorem mP{P:Program}{N:Nat}{ops:Array Oper}{o:Oper}{ao:cR}(h:xS P N ops o=some ao):
  cOp P o=some ao.op∧ao.dst=o.dst∧cGuard ops o.guard=some ao.guard∧(match o.dst with|some d=>Nat.blt d N|none=>true)=true:=by
 simp only[xS,aB,aA]at h;obtain⟨op,hop,g,hg,h⟩:=h;cases hd:o.dst with
 | none=>
  rw[hd]at h;simp only[aS,aC]at h;subst h;exact⟨hop,hd▸rfl,hg,rfl⟩
 | some d=>
  rw[hd]at h;cases hc:Nat.blt d N<;>simp only[hc]at h
  ·cases h
  ·simp only[aS,aC]at h;subst h;exact⟨hop,hd▸rfl,hg,hc⟩
def gF(b:Frame)(r:Option Nat)(μ:Mu):Prop:=
 match r with
 | none=>b.roundOf=none
 | some nm=>∃loc l,μ nm=some loc∧loc.blk=some l∧b.roundOf=some l
theorem gF.mono{b:Frame}{r:Option Nat}{μ μ':Mu}(hm:fV μ μ')(h:gF b r μ):gF b r μ':=by
 cases r with
 | none=>exact h
 | some nm=>obtain⟨loc,l,h1,h2,h3⟩:=h;exact⟨loc,l,hm _ _ h1,h2,h3⟩
def Did(E:Env)(M0:Nat→Prop)(w0:World)(N:Nat)(μ:Mu)(w:World)(x:AS)(m:Machine)(b:Frame)(k:List Item)(cs:List Frame)(out:Out)(y:AS):Prop:=
 ∃a' w' μ' ou,Rel E M0 w0 N μ' a' w' y∧Fr x.c x.s μ w y.c y.s μ' w'∧y.r=x.r∧OuRel (Mm M0 μ') w' μ' out ou∧Ends E.P m b k cs ou a' w'
def DidA(a:Act)(dst:Option Nat)(E:Env)(M0:Nat→Prop)(w0:World)(N:Nat)(μ:Mu)(w:World)(x:AS)(m:Machine)(b:Frame)(k:List Item)(cs:List Frame)(out:Out)(y:AS):Prop:=
 ∃a' w' μ' ou,Rel E M0 w0 N μ' a' w' y∧(∀n,dst≠some n→a'.tmps.getD n undef=a.tmps.getD n undef)∧Fr x.c x.s μ w y.c y.s μ' w'∧y.r=x.r∧OuRel (Mm M0 μ') w' μ' out ou∧Ends E.P m b k cs ou a' w'
theorem DidA.did{a:Act}{dst:Option Nat}{E:Env}{M0:Nat→Prop}{w0:World}{N:Nat}{μ:Mu}{w:World}{x:AS}{m:Machine}{b:Frame}{k:List Item}{cs:List Frame}{out:Out}{y:AS}
  (h:DidA a dst E M0 w0 N μ w x m b k cs out y):Did E M0 w0 N μ w x m b k cs out y:=by
 obtain⟨a',w',μ',ou,h1,_,h2,h3,h4,h5⟩:=h;exact⟨a',w',μ',ou,h1,h2,h3,h4,h5⟩
theorem uA(a:Act)(dst:Option Nat)(v:Value)(n:Nat)(h:dst≠some n):(a.put dst v).tmps.getD n undef=a.tmps.getD n undef:=by
 cases dst with
 | none=>rfl
 | some d=>
  have:d≠n:=fun e=>h (by rw[e])
  simp[Act.put,eJ,dA this]
section
variable {E:Env} {M0:Nat→Prop} {w0:World} {N:Nat} {μ:Mu} {M:Nat→Prop} {a:Act} {w:World} {x:AS} {b:Frame} {k:List Item} {cs:List Frame}
theorem Did.of_steps{m m1:Machine}{out:Out}{y:AS}(h:Steps E.P m m1)(h':Did E M0 w0 N μ w x m1 b k cs out y):Did E M0 w0 N μ w x m b k cs out y:=by
 obtain⟨a',w',μ',ou,h1,h2,h3,h4,h5⟩:=h';exact⟨a',w',μ',ou,h1,h2,h3,h4,h5.of_steps h⟩
theorem evs_map(l:List Arg)(G:List (Nat×List D))(t:Tm):evs l G t=l.map (·.ev G t):=by
 induction l with
 | nil=>rfl
 | cons y r ih=>rw[bW,←ih];rfl
theorem args_ev(h:Rel E M0 w0 N μ a w x){l:Array Operand}{az:List Arg}(hc:lQ l=some az):aX (Mm M0 μ) w μ (evs az E.G x.t) (l.map a.eval).toList:=by
 rw[evs_map,Array.toList_map];exact xV h hc
theorem call_did(h:Rel E M0 w0 N μ a w x){ops:Array Oper}{i:Nat}{rest:List Nat}{o:Oper}(ho:ops[i]?=some o)(hw:Region.wanted o (yielded ops a.tmps)=true)(hnd:∀c,o.op≠.defer c)
  (hd:(match o.dst with|some d=>Nat.blt d N|none=>true)=true) {r:FR} {out:Out} {y:AS} (hs:back o.dst x r = .ok out y)
  (hcall:∀fo s c,r = .ok fo s c→nX E.P (execOp a.eval o) w (tT E M0 w0 μ w x.c x.s fo s c)) :
  DidA a o.dst E M0 w0 N μ w x (lone (fat b a (.inRegion ops (i::rest)::k)) cs w) b (.inRegion ops rest::k) cs out y:=by
 obtain⟨fo,s,c,rfl,hy⟩:=back_inv hs;obtain⟨n,w1,fr0,hrun,hn,hdel⟩:=hcall _ _ _ rfl;have hg:=lM (P:=E.P) (b:=b) (k:=k) (cs:=cs) (w:=w) (rest:=rest) ho hw (.inr hnd);have henter:Go.step E.P (lone (fat b a (.inRegion ops (i::rest)::k)) cs w) = .next (lone fr0 (fat b a (.inRegion ops (i::rest)::k)::cs) w1):=
  cV (by rw[hg];exact xW hrun hn rfl)
 obtain⟨e,w',⟨μ',hS,hf,hfo⟩,hst⟩:=hdel (fat b a (.inRegion ops (i::rest)::k)) cs;have hR:=h.carry hS hf;rcases hy with⟨d,rfl,rfl,rfl⟩|⟨ch,rfl,rfl,rfl⟩
 ·obtain⟨v,rfl,hv⟩:=hfo;refine⟨a.put o.dst v,w',μ',.normal,?_,uA _ _ _,hf,rfl,rfl,?_⟩
  ·have:=hR.put (dst:=o.dst) hd hv;revert this;cases o.dst<;>exact id
  ·have:=mN b a ops i rest k v;rw[ho]at this;exact .head henter (by rw[←show _=fat b (a.put o.dst v) (.inRegion ops rest::k) from this];exact hst)
 ·obtain⟨chain,rfl,hc⟩:=hfo;exact⟨a,w',μ',.pan chain,hR,fun _ _=>rfl,hf,rfl,⟨chain,rfl,hc⟩,_,rfl,.head henter hst⟩
theorem op_didA{cl:CL}{cx:Cx}(hcl:nH E cl)(hM:∀t n f,cx.M t n=some f→oD E.P t n=some f)(hG:cx.G=E.G)(h:Rel E M0 w0 N μ a w x)(hro:gF b x.r μ)
  {ops:Array Oper} {i:Nat} {rest:List Nat} {o:Oper} {ao:cR} (hc:xS E.P N ops o=some ao) (ho:ops[i]?=some o) (hw:Region.wanted o (yielded ops a.tmps)=true)
  {out:Out} {y:AS} (hs:zOp cx cl ao x = .ok out y):DidA a o.dst E M0 w0 N μ w x (lone (fat b a (.inRegion ops (i::rest)::k)) cs w) b (.inRegion ops rest::k) cs out y:=by
 obtain⟨hop,hdst,_,hd⟩:=mP hc;have hfin:∀a v,(fat b a (.inRegion ops (i::rest)::k)).finish v=fat b (a.put o.dst v) (.inRegion ops rest::k):=fun a v=>by
  rw[mN,ho];rfl
 rcases cOp_kind hop with⟨hdata,hnd⟩|⟨c,f,l,hoc,hcal,hl,hao⟩|⟨c,y',g,l,hoc,hcal,hg,hl,hao⟩|⟨c,r,m,g,l,hoc,hcal,hg,hl,hao⟩|⟨y',g,hoc,hg,hao⟩|⟨c,y',g,l,hoc,hcal,hg,hl,hao⟩|⟨c,hoc,hcal,hao⟩
 · -- data
  rw[zOp_data hdata,hG]at hs;obtain⟨d,x',hst,rfl,rfl⟩:=zval_inv hs;obtain⟨v,w',μ',hr,hv,hR,hf⟩:=op_sound h hop hst;obtain⟨hr1,hr2⟩:=step_r hst;have hg:=lM (P:=E.P) (b:=b) (k:=k) (cs:=cs) (w:=w) (rest:=rest) ho hw (.inr hnd);have hput:=hR.put (dst:=o.dst) hd hv;rw[hdst];refine⟨a.put o.dst v,w',μ',.normal,hput,uA _ _ _,?_,?_,rfl,?_⟩
  ·revert hf;cases o.dst<;>exact id
  ·revert hr1;cases o.dst<;>exact id
  ·refine .one (cV ?_);rw[hg,←hfin];rcases hr with hr|⟨hr,rfl⟩
   ·exact oR hr
   ·exact rO hr
 · -- a function
  obtain⟨dst,op,gd⟩:=ao;simp only at hao hdst;subst hao hdst;refine call_did h ho hw (by rw[hoc];exact fun _ e=>by cases e) hd hs fun fo s c' hr=>?_
  rw[hG]at hr;refine(vM hcl h.toS (args_ev h hl) hr).congr ?_;simp only[execOp,hoc,resolve,hcal,Act.eval,Deferred.ofValue,aY,bO,aM,invoke,Array.empty_append,Array.append_empty]
 · -- a value
  obtain⟨dst,op,gd⟩:=ao;simp only at hao hdst;subst hao hdst;rw[show zOp cx cl ⟨o.dst,.callv g l,gd⟩ x=kN cx cl o.dst x (g.ev cx.G x.t) (evs l cx.G x.t) from rfl,vN,hG]at hs
  refine call_did h ho hw (by rw[hoc];exact fun _ e=>by cases e) hd hs fun fo s c' hr=>?_
  refine(raw_sound hcl hM h.toS (cP h hg) (args_ev h hl) hr).congr ?_;simp only[execOp,hoc,resolve,hcal]
 · -- a method
  obtain⟨dst,op,gd⟩:=ao;simp only at hao hdst;subst hao hdst;have hs':zo_inv m g l cx cl o.dst x = .ok out y:=hs;unfold zo_inv at hs';rw[hG]at hs';split at hs'
  ·rename_i t v he;unfold callM at hs';cases hm:cx.M t m with
   | none=>rw[hm]at hs';cases hs'
   | some f=>
    rw[hm]at hs';refine call_did h ho hw (by rw[hoc];exact fun _ e=>by cases e) hd hs' fun fo s c' hr=>?_
    have hrecv:=cP h hg;rw[he]at hrecv;refine(tL hcl hM h.toS (vals:=#[a.eval r]++c.args.map a.eval) ?_ hm hr #[]).congr ?_
    ·simp only[Array.toList_append,cD,cA];exact aX.cons hrecv (args_ev h hl)
    ·simp only[execOp,hoc,resolve,hcal,aY,bO,aM]
  ·cases hs'
 · -- a panic
  obtain⟨dst,op,gd⟩:=ao;simp only at hao hdst;subst hao hdst;have hs':zo_pan g cx cl o.dst x = .ok out y:=hs;unfold zo_pan at hs';rw[hG]at hs';have hv:=cP h hg;split at hs'
  ·rename_i t v he;cases hs';rw[he]at hv;have hv':=hv;simp only[aP]at hv;obtain⟨u,hu,_⟩:=hv;have hg':=lM (P:=E.P) (b:=b) (k:=k) (cs:=cs) (w:=w) (rest:=rest) ho hw (.inr (by rw[hoc];exact fun _ e=>by cases e))
   refine⟨a,w,μ,.pan [{ v:=a.eval y',recovered:=false }],h,fun _ _=>rfl,Fr.refl _ _ _ _,rfl,⟨_,rfl,?_⟩,.inRegion ops (i::rest)::k,rfl,.one (cV ?_)⟩
   ·simp only[iW];exact⟨_,_,rfl,hv',rfl⟩
   ·rw[hg',←fat_raise];refine apply_panic ?_;simp only[execOp,hoc,Instr.panic,hu,aY];rfl
  ·cases hs'
 · -- a deferred call
  obtain⟨dst,op,gd⟩:=ao;simp only at hao hdst;subst hao hdst;have hs':zo_dfr g l cx cl o.dst x = .ok out y:=hs;unfold zo_dfr at hs';rw[hG]at hs';have hv:=cP h hg;split at hs'
  ·rename_i fn p q he;cases hr:x.r with
   | some nm=>rw[hr]at hs';cases hs'
   | none=>
    rw[hr]at hs';have hs2:R.ok Out.normal ⟨iI o.dst x.t .un,x.s,x.c,(.fn fn p q,evs l E.G x.t)::x.d,none⟩ = .ok out y:=hs';cases hs2;rw[he]at hv;have hv':=hv;simp only[aP]at hv;obtain⟨va,vb,hu,_,_⟩:=hv;have hro':b.roundOf=none:=by rw[hr]at hro;exact hro
    have hg':=lM (P:=E.P) (b:=b) (k:=k) (cs:=cs) (w:=w) (rest:=rest) ho hw (.inl hro')
    let df:Deferred:={ target:=.fn fn vb,args:=va++c.args.map a.eval }
    have hR:Rel E M0 w0 N μ { a with defers:=df::a.defers } w ⟨x.t,x.s,x.c,(.fn fn p q,evs l E.G x.t)::x.d,none⟩:=
     h.toS.frame h.n h.tm (by
      simp only[iL];exact⟨fn,va,vb,c.args.map a.eval,a.defers,by rw[←hu];exact hv',args_ev h hl,rfl,h.defers⟩)
    refine⟨({ a with defers:=df::a.defers }:Act).put o.dst undef,w,μ,.normal,?_,fun n hn=>(uA _ _ _ n hn).trans rfl,Fr.refl _ _ _ _,hr.symm,rfl,?_⟩
    ·have:=hR.put (dst:=o.dst) (d:=.un) (v:=undef) hd (by simp only[aP])
     revert this;cases o.dst<;>exact id
    ·refine .one (cV ?_);rw[hg',←hfin];refine(apply_defer (d:=df) (w':=w) ?_).trans rfl;simp only[execOp,hoc,resolve,hcal,hu,Deferred.ofValue,aY,bO,aM,df]
  ·cases hs'
 · -- recover
  obtain⟨dst,op,gd⟩:=ao;simp only at hao hdst;subst hao hdst;cases hs
theorem op_did{cl:CL}{cx:Cx}(hcl:nH E cl)(hM:∀t n f,cx.M t n=some f→oD E.P t n=some f)(hG:cx.G=E.G)(h:Rel E M0 w0 N μ a w x)(hro:gF b x.r μ)
  {ops:Array Oper} {i:Nat} {rest:List Nat} {o:Oper} {ao:cR} (hc:xS E.P N ops o=some ao) (ho:ops[i]?=some o) (hw:Region.wanted o (yielded ops a.tmps)=true)
  {out:Out} {y:AS} (hs:zOp cx cl ao x = .ok out y):Did E M0 w0 N μ w x (lone (fat b a (.inRegion ops (i::rest)::k)) cs w) b (.inRegion ops rest::k) cs out y:=
 (op_didA hcl hM hG h hro hc ho hw hs).did
end
section
variable {E:Env} {M0:Nat→Prop} {w0:World} {N:Nat} {μ:Mu} {M:Nat→Prop} {a:Act} {w:World} {x:AS} {b:Frame} {k:List Item} {cs:List Frame}
theorem Did.bind{m:Machine}{k1:List Item}{cs1:List Frame}{out:Out}{y z:AS}(h1:Did E M0 w0 N μ w x m b k1 cs1 .normal z)
  (h2:∀a' w' μ',Rel E M0 w0 N μ' a' w' z→fV μ μ'→z.r=x.r→Did E M0 w0 N μ' w' z (lone (fat b a' k1) cs1 w') b k cs out y):Did E M0 w0 N μ w x m b k cs out y:=by
 obtain⟨a1,w1,μ1,ou1,r1,f1,e1,o1,n1⟩:=h1;cases o1;obtain⟨a2,w2,μ2,ou2,r2,f2,e2,o2,n2⟩:=h2 a1 w1 μ1 r1 f1.mu e1;exact⟨a2,w2,μ2,ou2,r2,f1.trans f2,e2.trans e1,o2,n2.of_steps n1⟩
theorem OuRel.normal_iff{out:Out}{ou:Ou}(h:OuRel (Mm M0 μ) w μ out ou)(hn:out≠.normal):ou≠.normal:=by
 cases out with
 | normal=>exact absurd rfl hn
 | exit i=>rw[show ou = .exit i from h];intro e;cases e
 | ret=>rw[show ou = .ret from h];intro e;cases e
 | pan c=>obtain⟨ch,rfl,_⟩:=h;intro e;cases e
theorem Did.pass{m:Machine}{it:Item}{out:Out}{y:AS}(hx:∀id,iA id (it::k)=iA id k)(hn:out≠.normal)(h:Did E M0 w0 N μ w x m b (it::k) cs out y):
  Did E M0 w0 N μ w x m b k cs out y:=by
 obtain⟨a1,w1,μ1,ou1,r1,f1,e1,o1,n1⟩:=h;exact⟨a1,w1,μ1,ou1,r1,f1,e1,o1,n1.pass hx (o1.normal_iff hn)⟩
theorem zbind_inv{r:R}{f:AS→R}{out:Out}{y:AS}(h:zbind r f = .ok out y):∃o z,r = .ok o z∧((o = .normal∧f z = .ok out y)∨(o≠.normal∧out=o∧y=z)):=by
 cases r with
 | no=>cases h
 | ok o z=>
  refine⟨o,z,rfl,?_⟩;cases o with
  | normal=>exact .inl ⟨rfl,h⟩
  | exit i=>have h':R.ok (.exit i) z = .ok out y:=h;cases h';exact .inr ⟨nofun,rfl,rfl⟩
  | ret=>have h':R.ok .ret z = .ok out y:=h;cases h';exact .inr ⟨nofun,rfl,rfl⟩
  | pan c=>have h':R.ok (.pan c) z = .ok out y:=h;cases h';exact .inr ⟨nofun,rfl,rfl⟩
theorem Did.zbind{m:Machine}{it:Item}{r:R}{f:AS→R}{out:Out}{y:AS}(hx:∀id,iA id (it::k)=iA id k)(hs:zbind r f = .ok out y)
  (h1:∀o z,r = .ok o z→Did E M0 w0 N μ w x m b (it::k) cs o z)
  (h2:∀z a' w' μ',Rel E M0 w0 N μ' a' w' z→fV μ μ'→z.r=x.r→f z = .ok out y→Did E M0 w0 N μ' w' z (lone (fat b a' (it::k)) cs w') b k cs out y) :
  Did E M0 w0 N μ w x m b k cs out y:=by
 obtain⟨o,z,hr,ho⟩:=zbind_inv hs;rcases ho with⟨rfl,hf⟩|⟨hn,rfl,rfl⟩
 ·exact(h1 _ _ hr).bind fun a' w' μ' g1 g2 g3=>h2 z a' w' μ' g1 g2 g3 hf
 ·exact(h1 _ _ hr).pass hx hn
theorem tmp_bool(h:Rel E M0 w0 N μ a w x){g:Nat}{c:Bool}(hg:tget x.t g = .bool c):a.tmps[g]?=some (.bool c):=by
 have:=h.tm g;rw[hg]at this;simp only[aP]at this;rw[eJ]at this;cases he:a.tmps[g]? with
 | none=>rw[he]at this;simp[undef]at this
 | some v=>rw[he]at this;simp only[Option.getD_some]at this;rw[this]
theorem tmp_skip(h:Rel E M0 w0 N μ a w x){g:Nat}(hg:tget x.t g = .tup []):a.tmps[g]?=none∨a.tmps[g]?=some (.tuple #[]):=by
 have:=h.tm g;rw[hg]at this;simp only[aP]at this;obtain⟨vs,hv,hr⟩:=this;simp only[aX]at hr;rw[eJ]at hv;cases he:a.tmps[g]? with
 | none=>exact .inl rfl
 | some v=>
  rw[he]at hv;simp only[Option.getD_some]at hv
  right;rw[hv,show vs = #[]from Array.toList_eq_nil_iff.1 hr]
theorem jT(h:Rel E M0 w0 N μ a w x){ops:Array Oper}{o:Oper}{ao:cR}(hg:cGuard ops o.guard=some ao.guard){c:Bool}(hs:wanted ao x=some c):
  Region.wanted o (yielded ops a.tmps)=c:=by
 unfold wanted at hs;cases hgd:o.guard with
 | none=>
  rw[hgd]at hg;simp only[cGuard,aC]at hg;rw[←hg]at hs;cases hs;simp[Region.wanted,hgd]
 | some p=>
  obtain⟨j,want⟩:=p;rw[hgd]at hg;simp only[cGuard,aB,aA,aC]at hg;obtain⟨oj,hoj,t,ht,hg⟩:=hg;rw[←hg]at hs;dsimp only at hs;split at hs
  ·rename_i d hd;cases hs;have hy:yielded ops a.tmps j=some d:=by simp[yielded,hoj,ht,tmp_bool h hd]
   simp only[Region.wanted,hgd,hy];cases d<;>cases want<;>rfl
  ·rename_i hd;cases hs;have hy:yielded ops a.tmps j=none:=by
    rcases tmp_skip h hd with e|e<;>simp[yielded,hoj,ht,e]
   simp[Region.wanted,hgd,hy]
  ·cases hs
theorem zOps_cons(cx:Cx)(cl:CL)(o:cR)(r:List cR)(x:AS):nL cx cl (o::r) x=match wanted o x with
  | none=>.no
  | some true=>zbind (zOp cx cl o x) (nL cx cl r)
  | some false=>nL cx cl r (x.put o.dst (.tup [])):=by
 show Option.rec (motive:=fun _=>R) .no (tW o (fun cx cl x=>nL cx cl r x) cx cl x) (wanted o x)=_
 cases wanted o x with
 | none=>rfl
 | some c=>
  cases c with
  | true=>rfl
  | false=>
   obtain⟨dst,op,g⟩:=o;cases dst<;>rfl
theorem put_r(x:AS)(dst:Option Nat)(d:D):(x.put dst d).r=x.r∧(x.put dst d).s=x.s:=by cases dst<;>exact⟨rfl,rfl⟩
theorem ops_did{cl:CL}{cx:Cx}(hcl:nH E cl)(hM:∀t n f,cx.M t n=some f→oD E.P t n=some f)(hG:cx.G=E.G){ops:Array Oper}:
  ∀{l:List Oper} {idx:List Nat} {az:List cR} {μ:Mu} {a:Act} {w:World} {x:AS},Rel E M0 w0 N μ a w x→gF b x.r μ→idx.map (ops[·]?)=l.map some→lD E.P N ops l=some az →
   ∀{out:Out} {y:AS},nL cx cl az x = .ok out y→Did E M0 w0 N μ w x (lone (fat b a (.inRegion ops idx::k)) cs w) b k cs out y:=by
 intro l
 induction l with
 | nil=>
  intro idx az μ a w x h hro hi hc out y hs;simp only[eX,List.map_eq_nil_iff]at hi;subst hi;simp only[lD,aC]at hc;subst hc;have hs':R.ok .normal x = .ok out y:=hs;cases hs';exact⟨a,w,μ,.normal,h,Fr.refl _ _ _ _,rfl,rfl,.one kJ⟩
 | cons o l ih=>
  intro idx az μ a w x h hro hi hc out y hs;cases idx with
  | nil=>cases hi
  | cons i rest=>
   simp only[bW,List.cons.injEq]at hi;obtain⟨hio,hi⟩:=hi;simp only[lD,aB,aA,aC]at hc;obtain⟨ao,hao,r,hr,rfl⟩:=hc;rw[zOps_cons]at hs;obtain⟨hop,hdst,hgd,hd⟩:=mP hao;cases hwd:wanted ao x with
   | none=>rw[hwd]at hs;cases hs
   | some c=>
    have hw:=jT h hgd hwd;rw[hwd]at hs;cases c with
    | true=>
     exact Did.zbind (it:=.inRegion ops rest) (fun _=>rfl) hs (fun o' z hz=>op_did hcl hM hG h hro hao hio hw hz)
      (fun z a' w' μ' g1 g2 g3 hf=>ih g1 (by rw[g3];exact hro.mono g2) hi hr hf)
    | false=>
     have hput:Rel E M0 w0 N μ (a.put o.dst undef) w (x.put ao.dst (.tup [])):=by
      rw[hdst];exact h.put hd (by simp only[aP];exact⟨#[],rfl,rfl⟩)
     have hst:=kR (P:=E.P) (b:=b) (a:=a) (k:=k) (cs:=cs) (w:=w) (ops:=ops) (i:=i) (rest:=rest) (by simp[hio,hw])
     simp only[hio,aO]at hst;have hD:=ih hput (by rw[(put_r x _ _).1];exact hro) hi hr hs
     refine Did.of_steps (.one hst) ?_;obtain⟨a',w',μ',ou,h1,h2,h3,h4,h5⟩:=hD;exact⟨a',w',μ',ou,h1,by revert h2;cases ao.dst<;>exact id,h3.trans (put_r x _ _).1,h4,h5⟩
theorem region_did{cl:CL}{cx:Cx}(hcl:nH E cl)(hM:∀t n f,cx.M t n=some f→oD E.P t n=some f)(hG:cx.G=E.G){ops:Array Oper}{az:List cR}(h:Rel E M0 w0 N μ a w x)(hro:gF b x.r μ)
  (hc:lD E.P N ops ops.toList=some az) {id:Nat} {out:Out} {y:AS} (hs:nL cx cl az x = .ok out y) :
  Did E M0 w0 N μ w x (lone (fat b a (.code (.region id ops false)::k)) cs w) b k cs out y:=by
 refine Did.of_steps (.one rG) (ops_did hcl hM hG h hro ?_ hc hs);apply List.ext_getElem?;intro j;simp only[gX,List.getElem?_range];by_cases hj:j<ops.size
 ·simp[hj]
 ·simp[hj]
end
def qA(P:Program)(μ:Mu)(M:Nat→Prop)(w:World)(v:Nat→D)(blk:Blk)(r:Result Next):Prop:=
 ∃u w' obj cap,r = .ok (.value u) w'∧w'.heap=w.heap.push obj∧uP w w' ∧
  ∀(M':Nat→Prop) (w'':World) (μ':Mu) (nm:Nat),Ext M w M' w''→fV μ μ'→μ' nm=some ⟨some w.heap.size,cap⟩ →
   aP M' w'' μ' (v nm) u∧(M' w.heap.size→w''.heap[w.heap.size]?=some obj→rR P M' w'' μ' nm blk)
section
variable {E:Env} {M0:Nat→Prop} {w0:World} {N:Nat} {μ:Mu} {M:Nat→Prop} {a:Act} {w:World} {x:AS}
theorem al_new(h:Rel E M0 w0 N μ a w x){ar:Arg}{v:Value}(hv:aP (Mm M0 μ) w μ (ar.ev E.G x.t) v){e:TypeId}{vf:Nat→D}{blk:Blk}
  (hs:cT E.G (.new (e+1) ar) x.t=some (vf,blk)) {s:Sem Value} (hrun:s.run E.P w = .ok (.pointer (some ⟨w.heap.size,0,none⟩)) { w with heap:=w.heap.push (.cells v.cells e) }) :
  qA E.P μ (Mm M0 μ) w vf blk ((do pure (.value (←s)):Sem Next).run E.P w):=by
 simp only[cT]at hs;split at hs
 ·rename_i cs hcs;cases hs;have hr:=lP hcs hv;refine⟨_,_,.cells v.cells e,cs.length,bP hrun,rfl,⟨rfl,rfl⟩,fun M' w'' μ' nm hx hmle hm=>⟨?_,fun hM hb=>⟨_,_,_,_,_,hm,rfl,rfl,hM,hb,thaw0 _,aX.mono hx _ _ hmle hr,fun k hk=>by first|exact Nat.add_right_cancel hk|exact absurd hk.symm (Nat.succ_ne_zero k)⟩⟩⟩
  simp only[aP];exact⟨_,_,hm,rfl,rfl⟩
 ·cases hs
theorem al_bsl(h:Rel E M0 w0 N μ a w x){t e:TypeId}{len s:Nat}{ps:Array (Nat×Operand)}{zd:D}{zc:List D}(hu:E.P.underlying t=some (.slice e))(hsz:iE E.P e=some s)
  (hz:iR E.P e=some zd) (hzc:zd.cells?=some zc) (hle:Nat.ble (len*s) 16777216=true) (hzl:Nat.beq zc.length s=true) {l:List (Nat×Nat×Arg)}
  (hl:ps.toList.mapM (fun(p:Nat×Operand)=>do
    let a ←cS p.2
    some (p.1*s,s,a))=some l) {v:Nat→D} {blk:Blk}
  (hs:cT E.G (.bsl len s (wX len s zc) l) x.t=some (v,blk)):qA E.P μ (Mm M0 μ) w v blk ((do pure (.value (←Instr.buildSlice t len (ps.map fun(i,x)=>(i,a.eval x)))):Sem Next).run E.P w):=by
 simp only[cT,aG]at hs;obtain⟨out,ho,he⟩:=hs;cases he;have hzl':=aR hzl;have hle':=cO hle;simp only[iR,aB,aA]at hz;obtain⟨i,hi,v,hv,hz⟩:=hz;have hzr:=lP hzc (kC (M0:=M0) (w:=w) (μ:=μ) _ _ _ hz)
 let zs:Array Value:=if len*s=0 then #[]else v.cells
 have hrep:aX (Mm M0 μ) w μ (wX len s zc) ((Array.range (len*s)).map fun i=>zs[i % zs.size]!).toList:=by
  unfold wX;by_cases h0:len*s=0
  ·rw[h0];simp;exact aX.nil
  ·rw[iY h0];have:zs=v.cells:=aD h0;rw[this];exact vT hzr len s hzl' _ rfl
 obtain⟨arr,hfill,hr⟩:=tH h (fun i=>some (i*s,s)) _ (fun p q hq=>by
  simp only[aB,aA,aC]at hq;obtain⟨ar,har,rfl⟩:=hq;exact⟨rfl,har⟩) ps.toList l hl _ out _ hrep ho
 have hol:out.length=len*s:=by
  have place_len:∀(l:List (Nat×Nat×D)) (cs out:List D),place cs l=some out→out.length=cs.length:=by
   intro l
   induction l with
   | nil=>intro cs out h;simp[place]at h;subst h;rfl
   | cons p l ih=>
    intro cs out h;obtain⟨o1,n1,d1⟩:=p;simp only[place]at h;split at h
    ·rename_i c hc;cases hcond:(Nat.beq c.length n1&&Nat.ble (o1+n1) cs.length)<;>rw[hcond]at h
     ·cases h
     ·rw[ih _ _ h,iT]
    ·cases h
  rw[place_len _ _ _ ho];unfold wX;by_cases h0:len*s=0
  ·rw[h0];simp
  ·rw[iY h0];simp[rep,hzl']
 refine⟨.slice (some ⟨w.heap.size,0,none⟩) len len,{ w with heap:=w.heap.push (.cells arr e) },.cells arr e,out.length,bP ?_,rfl,⟨rfl,rfl⟩,fun M' w'' μ' nm hx hmle hm=>⟨?_,fun hM hb=>⟨_,_,_,_,_,hm,rfl,rfl,hM,hb,thaw0 _,aX.mono hx _ _ hmle hr,fun k hk=>by first|exact Nat.add_right_cancel hk|exact absurd hk.symm (Nat.succ_ne_zero k)⟩⟩⟩
 ·have hp:(ps.map fun(p:Nat×Operand)=>(p.1,a.eval p.2)).toList=ps.toList.map fun p=>(p.1,a.eval p.2):=by simp
  have hgt:¬len*s>2 ^ 24:=by omega
  simp only[Instr.buildSlice,aY,aZ hu,aM,dO hsz,hgt,eV];rw[show(ps.map fun(x:Nat×Operand)=>match x with|(i,x)=>(i,a.eval x))=ps.map fun p=>(p.1,a.eval p.2) from rfl,hp]
  by_cases h0:len*s=0
  ·have hz0:zs = #[]:=aH h0;rw[hz0]at hfill;simp only[h0,if_true,aY,bO,aM]at hfill ⊢;rw[hfill];simp[newRow]
  ·have hz0:zs=v.cells:=aD h0;rw[hz0]at hfill;simp only[h0,eV,aY,bO,aM,zeroValue,eE hi,hv];rw[hfill];simp[newRow]
 ·simp only[aP];exact⟨_,_,hm,rfl,rfl,aJ _,by simp[hol]⟩
theorem al_mks(h:Rel E M0 w0 N μ a w x){t e:TypeId}{i:TypeInfo}{zd:D}{zc:List D}(hu:E.P.underlying t=some (.slice e))(hi:E.P.info? e=some i)
  (hz:iR E.P e=some zd) (hzc:zd.cells?=some zc) (hzl:Nat.beq zc.length i.size=true) {o p:Operand} {lr cr:Arg} (h2:cS o=some lr) (h3:cS p=some cr) {vf:Nat→D} {blk:Blk}
  (hs:cT E.G (.mks i.size i.bytes zc lr cr) x.t=some (vf,blk)):qA E.P μ (Mm M0 μ) w vf blk ((do pure (.value (←Instr.makeSlice t (a.eval o) (a.eval p))):Sem Next).run E.P w):=by
 have hv:=cP h h2;have hp:=cP h h3;simp only[cT]at hs;split at hs
 ·rename_i k l j c he1 he2;rw[he1]at hv;rw[he2]at hp;simp only[aP]at hv hp;split at hs
  ·rename_i hcond;obtain⟨c1,c2,c3,c4⟩:=hcond;cases hs;have hzl':=aR hzl;simp only[iR,aB,aA]at hz;obtain⟨i',hi',v,hv',hz⟩:=hz;rw[hi]at hi';cases hi';have hzr:=lP hzc (kC (M0:=M0) (w:=w) (μ:=μ) _ _ _ hz);have wl:IntKind.i64.wrap l=l:=by rw[←kH];exact kW (by simp only[loK];omega) (by simp only[hiK];omega)
   have wc:IntKind.i64.wrap c=c:=by rw[←kH];exact kW (by simp only[loK];omega) (by simp only[hiK];omega)
   let n:=c.toNat*i.size
   let zs:Array Value:=if n=0 then #[]else v.cells
   have hrep:aX (Mm M0 μ) w μ (rep c.toNat zc) ((Array.range n).map fun k=>zs[k % zs.size]!).toList:=by
    by_cases h0:n=0
    ·have e0:(rep c.toNat zc)=[]:=by
      apply dY;simp[rep,hzl'];simpa[n]using h0
     rw[h0,e0];simp;exact aX.nil
    ·have:zs=v.cells:=aD h0;rw[this];exact vT hzr c.toNat i.size hzl' n rfl
   refine⟨.slice (some ⟨w.heap.size,0,none⟩) l.toNat c.toNat,{ w with heap:=w.heap.push (.cells ((Array.range n).map fun k=>zs[k % zs.size]!) e) },.cells ((Array.range n).map fun k=>zs[k % zs.size]!) e,(rep c.toNat zc).length,bP ?_,rfl,⟨rfl,rfl⟩,fun M' w'' μ' nm hx hmle hm=>⟨?_,fun hM hb=>⟨_,_,_,_,_,hm,rfl,rfl,hM,hb,thaw0 _,aX.mono hx _ _ hmle hrep,fun k hk=>by first|exact Nat.add_right_cancel hk|exact absurd hk.symm (Nat.succ_ne_zero k)⟩⟩⟩
   ·have hno:((decide (c<0)||decide ((i.bytes:Int)*c>2 ^ 48))||decide (l<0)||decide (l>c))=false:=by
     simp only[Bool.or_eq_false_iff,bX];refine⟨⟨⟨by omega,by omega⟩,by omega⟩,by omega⟩
    simp only[Instr.makeSlice,hv,hp,asInt,asIntOf,aY,aZ hu,aM,bO,eE hi,wl,wc];rw[aD (by rw[hno];simp)]
    simp only[aY,aM,run_askRoom,dO (show iE E.P e=some i.size by simp[iE,hi]),bO]
    rw[show c.toNat*i.size=n from rfl]
    by_cases h0:n=0
    ·have hz0:zs = #[]:=aH h0;rw[hz0];simp[h0,newRow]
    ·have hz0:zs=v.cells:=aD h0;rw[hz0];simp[h0,newRow,zeroValue,eE hi,hv']
   ·simp only[aP];exact⟨_,_,hm,rfl,rfl,by omega,by simp[rep,hzl']⟩
  ·cases hs
 ·cases hs
theorem alloc_res0(h:Rel E M0 w0 N μ a w x){o:Oper}{ao:AOp}(hc:xT E.P o=some ao){v:Nat→D}{blk:Blk}(hs:cT E.G ao x.t=some (v,blk)):
  qA E.P μ (Mm M0 μ) w v blk ((execOp a.eval o).run E.P w):=by
 have hcase:∀op,o.op=op→qA E.P μ (Mm M0 μ) w v blk ((execOp a.eval o).run E.P w):=by
  intro op ho;have hc':=hc;simp only[xT,ho]at hc;cases op<;>(try simp only[reduceCtorEq]at hc)
  case alloc t=>
   simp only[aB,aA,aC]at hc;obtain⟨zd,hz,rfl⟩:=hc;simp only[iR,aB,aA]at hz;obtain⟨i,hi,v,hv,hz⟩:=hz;simp only[execOp,ho];refine al_new (v:=v) (e:=t) h (by simp only[Arg.ev];exact kC _ _ _ hz) hs ?_
   simp[Instr.alloc,zeroValue,eE hi,hv,newVar,newRow]
  case box t y=>
   simp only[aB,aA,aC]at hc;obtain⟨ar,h2,rfl⟩:=hc;simp only[execOp,ho];refine al_new (v:=a.eval y) (e:=t) h (cP h h2) hs ?_;simp[Instr.box,newVar,newRow]
  case buildSlice t len ps=>
   simp only[execOp,ho];split at hc
   ·rename_i e hu;simp only[aB,aA]at hc;obtain⟨s,hsz,zd,hz,l,hl,zc,hzc,hc⟩:=hc;cases hcond:(Nat.ble (len*s) 16777216&&Nat.beq zc.length s)<;>rw[hcond]at hc
    ·cases hc
    simp only[bE]at hcond;simp only[aS,aC]at hc;subst hc;exact al_bsl h hu hsz hz hzc hcond.1 hcond.2 hl hs
   ·cases hc
  case makeSlice t l c=>
   simp only[execOp,ho];split at hc
   ·rename_i e hu;simp only[aB,aA]at hc;obtain⟨i,hi,zd,hz,zc,hzc,lr,h2,cr,h3,hc⟩:=hc;cases hcond:(Nat.beq zc.length i.size)<;>rw[hcond]at hc
    ·cases hc
    simp only[aS,aC]at hc;subst hc;exact al_mks h hu hi hz hzc hcond h2 h3 hs
   ·cases hc
  case makeMap t r=>
   cases r with
   | some r=>simp only[reduceCtorEq]at hc
   | none=>
    simp only[aC]at hc;subst hc;simp only[cT,aC,dZ]at hs;obtain⟨rfl,rfl⟩:=hs;simp only[execOp,ho];refine⟨.map (some w.heap.size),{ w with heap:=w.heap.push (.map #[] 0) },.map #[] 0,0,bP ?_,rfl,⟨rfl,rfl⟩,fun M' w'' μ' nm hx hmle hm=>⟨?_,fun hM hb=>⟨_,_,_,hm,rfl,hM,hb,by simp[MEs]⟩⟩⟩
    ·simp[Instr.makeMap,newObj,Sem.run]
    ·simp only[aP];exact⟨_,_,hm,rfl,rfl⟩
  all_goals
   exfalso;have hk:ao.kd≠1:=by
    clear hs;revert hc;intro hc
    repeat' (first|contradiction|(cases hc;exact(by decide))|(split at hc)|(simp only[aB,aA,aC,cond_eq_ite]at hc)|(obtain⟨_,_,hc⟩:=hc))
    all_goals (intro hh;cases hh)
   have:ao.kd=1:=by
    unfold cT at hs;split at hs<;>first|rfl|cases hs
   exact hk this
 exact hcase o.op rfl
theorem alloc_res(h:Rel E M0 w0 N μ a w x){o:Oper}{ao:AOp}(hc:cOp E.P o=some ao){v:Nat→D}{blk:Blk}(hs:cT E.G ao x.t=some (v,blk)):
  qA E.P μ (Mm M0 μ) w v blk ((execOp a.eval o).run E.P w):=by
 unfold cOp at hc;split at hc
 ·rename_i op he;cases hc;rcases(cExt_kind he).1 with⟨k,l,rfl⟩|⟨k,l,rfl⟩<;>cases hs
 ·exact alloc_res0 h hc hs
theorem Rel.restrict(h:Rel E M0 w0 N μ a w x){x':AS}(ht:∀n,tget x'.t n=tget x.t n∨tget x'.t n = .un)(hs:∀nm blk,sget x'.s nm=some blk→μ nm≠none→sget x.s nm=some blk)
  (hc:x.c≤x'.c) (hd:x'.d=x.d):Rel E M0 w0 N μ a w x':=
 {h with
  defers:=by rw[hd];exact h.defers
  tm:=fun n=>by
   rcases ht n with e|e
   ·rw[e];exact h.tm n
   ·rw[e];simp only[aP]
  st:=fun nm blk l hl hb=>h.st nm blk l hl (hs nm blk hb (by rw[hl];simp))
  lt:=fun nm l hl=>bY (h.lt nm l hl) hc
  inj:=fun n m l l' b h1 h2 e1 e2=>by
   obtain⟨b1,hb1⟩:=eA.1 h1;obtain⟨b2,hb2⟩:=eA.1 h2;exact h.inj n m l l' b (by rw[hs n b1 hb1 (by rw[e1];simp)];rfl) (by rw[hs m b2 hb2 (by rw[e2];simp)];rfl) e1 e2 }
theorem Rel.lift(h:Rel E M0 w0 N μ a w x){s1:St}(hs1:∀nm blk,sget s1 nm=some blk→μ nm≠none→sget x.s nm=some blk){a':Act}{w':World}{μ':Mu}{x':AS}
  (h':Rel E M0 w0 N μ' a' w' x') (hf:Fr x.c s1 μ w x'.c x'.s μ' w') {s2:St} {t2:Tm}
  (hs2:∀nm blk,sget s2 nm=some blk→μ' nm≠none→sget x'.s nm=some blk∨(sget x.s nm=some blk∧μ nm≠none∧sget s1 nm=none))
  (ht:∀n,aP (Mm M0 μ') w' μ' (tget t2 n) (a'.tmps.getD n undef)):Rel E M0 w0 N μ' a' w' ⟨t2,s2,x'.c,x'.d,x'.r⟩∧Fr x.c x.s μ w x'.c s2 μ' w':=by
 have hx:Ext (Mm M0 μ) w (Mm M0 μ') w':=hf.ext;have live1:∀b,Live s1 μ b→Live x.s μ b:=fun b ⟨nm,l,g1,g2,g3⟩=>by
  obtain⟨bk,hbk⟩:=eA.1 g1;exact⟨nm,l,by rw[hs1 nm bk hbk (by rw[g2];simp)];rfl,g2,g3⟩
 -- a block outside of the part
 have aside:∀nm blk l b,sget x.s nm=some blk→μ nm=some l→l.blk=some b→sget s1 nm=none→¬Live s1 μ b:=by
  intro nm blk l b g1 g2 g3 g4 ⟨nm',l',e1,e2,e3⟩;obtain⟨bk,hbk⟩:=eA.1 e1;have:=h.inj nm nm' l l' b (by rw[g1];rfl) (by rw[hs1 nm' bk hbk (by rw[e2];simp)];rfl) g2 e2 g3 e3
  subst this;rw[g4]at e1;cases e1
 have old:∀nm,μ nm≠none→∃l,μ nm=some l∧μ' nm=some l:=fun nm hn=>by
  cases hl:μ nm with
  | none=>exact absurd hl hn
  | some l=>exact⟨l,rfl,hf.mu _ _ hl⟩
 refine⟨{h' with
  tm:=ht
  st:=fun nm blk l hl hb=>by
   rcases hs2 nm blk hb (by rw[hl];simp) with e|⟨e1,e2,e3⟩
   ·exact h'.st nm blk l hl e
   ·obtain⟨l0,g1,g2⟩:=old nm e2;refine rR.mono hx hf.mu (fun l1 b1 k1 k2=>⟨?_,Mm.mono hf.mu⟩) (h.st nm blk l0 g1 e1)
    exact hf.same b1 (h.own nm l1 b1 k1 k2).2 (aside nm blk l1 b1 e1 k1 k2 e3)
  lt:=h'.lt
  inj:=fun n m l l' b s1' s2' e1 e2 e3 e4=>by
   obtain⟨bn,hbn⟩:=eA.1 s1';obtain⟨bm,hbm⟩:=eA.1 s2';rcases hs2 n bn hbn (by rw[e1];simp) with f1|⟨f1,f2,f3⟩<;>rcases hs2 m bm hbm (by rw[e2];simp) with k1|⟨k1,k2,k3⟩
   ·exact h'.inj n m l l' b (by rw[f1];rfl) (by rw[k1];rfl) e1 e2 e3 e4
   ·exfalso;obtain⟨l0,g1,g2⟩:=old m k2;rw[e2]at g2;cases g2;have hb:=(h.own m l' b g1 e4).2;exact aside m bm l' b k1 g1 e4 k3 (hf.live b hb ⟨n,l,by rw[f1];rfl,e1,e3⟩)
   ·exfalso;obtain⟨l0,g1,g2⟩:=old n f2;rw[e1]at g2;cases g2;have hb:=(h.own n l b g1 e3).2;exact aside n bn l b f1 g1 e3 f3 (hf.live b hb ⟨m,l',by rw[k1];rfl,e2,e4⟩)
   ·obtain⟨l0,g1,g2⟩:=old n f2;rw[e1]at g2;cases g2;obtain⟨l1,g3,g4⟩:=old m k2;rw[e2]at g4;cases g4;exact h.inj n m l l' b (by rw[f1];rfl) (by rw[k1];rfl) g1 g3 e3 e4 },⟨hf.size,fun b hb hn=>hf.same b hb fun hl=>hn (live1 b hl),fun b hb hl=>?_,hf.mu,hf.cle,hf.kept,hf.new⟩⟩
 obtain⟨nm,l,g1,g2,g3⟩:=hl;obtain⟨bk,hbk⟩:=eA.1 g1;rcases hs2 nm bk hbk (by rw[g2];simp) with e|⟨e1,e2,e3⟩
 ·exact live1 b (hf.live b hb ⟨nm,l,by rw[e];rfl,g2,g3⟩)
 ·obtain⟨l0,k1,k2⟩:=old nm e2;rw[g2]at k2;cases k2;exact⟨nm,l,by rw[e1];rfl,k1,g3⟩
theorem Rel.reserve(h:Rel E M0 w0 N μ a w x){nm:Nat}(hn:μ nm=none)(hlt:nm<x.c){blk:Blk}{obj:Obj}{cap:Nat}{w':World}(hw:w'.heap=w.heap.push obj)(he:uP w w')
  (hB:∀M' w'' μ',Ext (Mm M0 μ) w M' w''→fV μ μ'→μ' nm=some ⟨some w.heap.size,cap⟩→M' w.heap.size→w''.heap[w.heap.size]?=some obj→rR E.P M' w'' μ' nm blk) :
  ∃μ',Rel E M0 w0 N μ' a w' { x with s:=sadd x.s nm blk }∧fV μ μ'∧Ext (Mm M0 μ) w (Mm M0 μ') w'∧μ' nm=some ⟨some w.heap.size,cap⟩∧(∀n,n≠nm→μ' n=μ n) ∧
   (w.heap.size≤w'.heap.size∧(∀b,b<w.heap.size→w'.heap[b]?=w.heap[b]?)∧∀b,b<w.heap.size→Live (sadd x.s nm blk) μ' b→Live x.s μ b):=by
 let μ':=dR μ nm (some ⟨some w.heap.size,cap⟩)
 have hμ:∀n,n≠nm→μ' n=μ n:=fun n e=>by simp[μ',dR,e]
 have hμn:μ' nm=some ⟨some w.heap.size,cap⟩:=by simp[μ',dR]
 have hle:fV μ μ':=fun n l hl=>by
  rw[hμ n fun e=>by rw[e,hn]at hl;cases hl];exact hl
 have hget:∀b,b<w.heap.size→w'.heap[b]?=w.heap[b]?:=fun b hb=>by
  rw[hw,Array.getElem?_push_lt hb,gY hb]
 have hsz:w'.heap.size=w.heap.size+1:=by rw[hw];simp
 have hnew:∀b,b<w.heap.size→Nm μ' b→Nm μ b:=fun b hlt' ⟨k,l,hl,hlb⟩=>by
  by_cases hk:k=nm
  ·rw[hk,hμn]at hl;cases hl;cases hlb;omega
  ·rw[hμ k hk]at hl;exact⟨k,l,hl,hlb⟩
 have hx:Ext (Mm M0 μ) w (Mm M0 μ') w':=ext_mu (by omega) (fun b hb _=>hget b hb) hle hnew
 have hM:Mm M0 μ' w.heap.size:=.inr ⟨nm,_,hμn,rfl⟩;have hpush:w'.heap[w.heap.size]?=some obj:=by rw[hw];simp
 refine⟨μ',{h with
  size:=by have:=h.size;omega
  old:=fun b hb=>by rw[hget b (bY hb h.size)];exact h.old b hb
  env:=⟨he.1.trans h.env.1,he.2.trans h.env.2⟩
  defers:=iL.mono hx hle h.defers
  tm:=fun n=>aP.mono hx _ _ hle (h.tm n)
  st:=fun k bk l hl hk=>by
   rw[aW]at hk;by_cases e:k=nm
   ·rw[aH e]at hk;cases hk;rw[e];exact hB (Mm M0 μ') w' μ' hx hle hμn hM hpush
   ·rw[aD e]at hk;exact rR.mono hx hle (fun l b hl hlb=>⟨hget b (h.own k l b hl hlb).2,Mm.mono hle⟩) (h.st k bk l (by rw[←hμ k e];exact hl) hk)
  lt:=fun k l hl=>by
   by_cases e:k=nm
   ·rw[e];exact hlt
   ·exact h.lt k l (by rw[←hμ k e];exact hl)
  own:=fun k l b hl hlb=>by
   by_cases e:k=nm
   ·rw[e,hμn]at hl;cases hl;cases hlb;exact⟨h.size,by omega⟩
   ·have:=h.own k l b (by rw[←hμ k e];exact hl) hlb
    exact⟨this.1,by omega⟩
  inj:=fun n m l l' b s1 s2 e1 e2 e3 e4=>by
   rw[aW]at s1 s2;by_cases en:n=nm<;>by_cases em:m=nm
   ·rw[en,em]
   ·rw[en,hμn]at e1;cases e1;cases e3;rw[hμ m em]at e2;have:=(h.own m l' _ e2 e4).2;omega
   ·rw[em,hμn]at e2;cases e2;cases e4;rw[hμ n en]at e1;have:=(h.own n l _ e1 e3).2;omega
   ·rw[aD en]at s1;rw[aD em]at s2;rw[hμ n en]at e1;rw[hμ m em]at e2;exact h.inj n m l l' b s1 s2 e1 e2 e3 e4 },hle,hx,hμn,hμ,by omega,hget,fun b hb hl=>?_⟩
 obtain⟨k,l,g1,g2,g3⟩:=hl;by_cases e:k=nm
 ·rw[e,hμn]at g2;cases g2;cases g3;omega
 ·rw[aW,aD e]at g1;exact⟨k,l,g1,by rw[←hμ k e];exact g2,g3⟩
end
end Zv
