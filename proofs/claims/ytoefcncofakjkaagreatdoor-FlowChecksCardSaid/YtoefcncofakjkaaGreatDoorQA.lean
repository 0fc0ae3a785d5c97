/- What functions come to: expressions by the document, first part. Conditions: none. -/
import Derived.Test.YtoefcncofakjkaaGreatDoorPD
import Derived.Test.YtoefcncofakjkaaGreatDoorNC
set_option linter.unusedVariables false
set_option linter.unusedSimpArgs false
set_option maxRecDepth 100000
namespace Zv
open Go
noncomputable section
def numB (l:List Nd) (p:Nat):Bool:=match l[p]? with|some x=>decide (x.kind=1)|none=>false
def listedB (l:List Nd) (i k:Nat):Bool:=allN k fun j=>numB l (i+1+j)
theorem numB_lt {l:List Nd} {p:Nat} (h:p<l.length):numB l p=decide (l[p].kind=1):=by unfold numB; rw [List.getElem?_eq_getElem h]
theorem numB_ge {l:List Nd} {p:Nat} (h:l.length≤p):numB l p=false:=by unfold numB; rw [List.getElem?_eq_none h]
theorem allN_upto {n:Nat} {p:Nat→Bool} (h:∀ j,j<n→p j=true):allN n p=true:=allN_iff.2 h
theorem c97 (n:Nat) {l:List Nd} {d:D} (hd:Sl 7 nodeC l d) (hl:l.length<4294967296) {i:Nat} (hi:i<l.length) {k:Nat} (hk:l[i].kids=k) (hk4:k<4294967296) :
  cl n 106 [d,.int .i64 (i:Nat)]=some (.bool (listedB l i k),true):=by
 rw [cl_run (A:=A106) rfl n _ rfl,show A106.body=B106 from rfl]
 simp only [B106,Ab.abq]
 have w0:wrapD .i64 ((i:Int)+1)=((i+1:Nat):Int):=inc_i64 (by omega)
 have wk:wrapD .i64 ((i:Int)+(k:Int))=((i+k:Nat):Int):=by rw [wrapD_i64 (by omega) (by omega)]; omega
 have g2:=hd.cell hi (show 2<7 by omega)
 simp only [z2,seval,w0]
 generalize hz:zloop KK _ _=rl
 refine zwhile rl hz k (KK_lt (by omega)) (fun j z=>∃ t st c,z=⟨t,st,c,[],none⟩∧tget t 0=d∧tget t 1 = .int .i64 (i:Nat)∧tget t 5 = .int .i64 ((i+1+j:Nat):Int)∧∀ q,q<j→numB l (i+1+q)=true) ⟨_,_,_,rfl,by simp [ex_val],by simp [ex_val],by simp [ex_val],nofun⟩ ?_
 rintro j z hj ⟨t,st,c,rfl,q0,q1,q5,hall⟩
 by_cases hjk:j<k
 ·have hle:decide (((i+1+j:Nat):Int)≤((i+k:Nat):Int))=true:=dT (by omega)
  have w1:wrapD .i64 (((i+1+j:Nat):Int)+1)=((i+1+(j+1):Nat):Int):=inc_i64 (by omega)
  by_cases hlt:i+1+j<l.length
  ·have g0:=hd.cell hlt (show 0<7 by omega)
   have hge:decide ((l.length:Int)≤((i+1+j:Nat):Int))=false:=dF (by omega)
   have hn:=numB_lt hlt
   cases hk1:decide (l[i+1+j].kind=1)
   ·simp only [z2,seval,q0,q1,q5,hd.len,hd.ia hi,hd.ia hlt,g2,g0,nodeC,hk,wk,hle,hge,nb,hk1,A106]
    rw [show listedB l i k=false from allN_not hjk (hn.trans hk1)]; rfl
   ·simp only [z2,seval,q0,q1,q5,hd.len,hd.ia hi,hd.ia hlt,g2,g0,nodeC,hk,wk,hle,hge,nb,hk1,w1]
    refine ⟨hjk,_,_,_,rfl,by simp [ex_val,q0],by simp [ex_val,q1],by simp [ex_val],fun q hq => ?_⟩
    rcases Nat.lt_succ_iff_lt_or_eq.1 hq with h|rfl
    ·exact hall q h
    ·exact hn.trans hk1
  ·have hge:decide ((l.length:Int)≤((i+1+j:Nat):Int))=true:=dT (by omega)
   simp only [z2,seval,q0,q1,q5,hd.len,hd.ia hi,g2,nodeC,hk,wk,hle,hge,nb,A106]
   rw [show listedB l i k=false from allN_not hjk (numB_ge (by omega))]; rfl
 ·have hle:decide (((i+1+j:Nat):Int)≤((i+k:Nat):Int))=false:=dF (by omega)
  have:j=k:=by omega
  subst this
  simp only [z2,seval,q0,q1,q5,hd.len,hd.ia hi,g2,nodeC,hk,wk,hle,nb,A106]
  rw [show listedB l i j=true from allN_upto hall]; rfl
end
end Zv
namespace Zv
open Go
noncomputable section
structure GoodN (x:Nd):Prop where
 k3:x.kind=3→0≤x.kids∧x.kids<400
 kp:x.kind=5∨x.kind=6→x.kids=1∨x.kids=2
theorem good_of {x:Nd} (h:wrongI x=0):GoodN x:=by
 unfold wrongI at h
 cases h1:decide (x.kind<1)||(decide (6<x.kind)||surB x)
 case true=>rw [h1] at h; cases h
 cases h2:decide (x.site<0)||decide (1000000000<x.site)
 case true=>rw [h1,h2] at h; cases h
 cases h3:decide (cntI x.text<0)
 case true=>rw [h1,h2,h3] at h; cases h
 cases h4:decide (400<cntI x.text)||(decide (x.kind=3)&&decide (400≤x.kids))
 case true=>rw [h1,h2,h3,h4] at h; cases h
 cases h5:(decide (x.kind=3)&&decide (x.kids<0))||((decide (x.kind=5) && !decide (x.kids=arI x.prim))||(decide (x.kind=6)&&(!decide (x.kids=1) && !decide (x.kids=2))))
 case true=>rw [h1,h2,h3,h4,h5] at h; cases h
 simp only [Bool.or_eq_false_iff,Bool.and_eq_false_imp,decide_eq_true_eq,decide_eq_false_iff_not,Bool.not_eq_false',Bool.not_eq_eq_eq_not,Bool.not_true] at h1 h4 h5
 refine ⟨fun k=>⟨by have:=h5.1 k; omega,by have:=h4.2 k; omega⟩,fun k => ?_⟩
 rcases k with k|k
 ·have e:=of_decide_eq_true (h5.2.1 k)
  have hs:=h1.2.2
  rcases ar_cases x.prim with ⟨a,hf,hr,ha⟩|⟨hf,hr⟩
  ·have e':x.kids=a:=e.trans (by rw [arI,hf]; rfl)
   rw [e',ha]; split <;> simp
  ·exfalso
   have:decide (x.kind=5∧(x.prim<1∨40<x.prim))=true:=decide_eq_true ⟨k,hr⟩
   rw [sur_rest x (by omega),this] at hs
   cases hs
 ·have:=h5.2.2 k
  by_cases e:x.kids=1
  ·exact .inl e
  ·exact .inr (by simpa [e] using this)
structure GoodL (l:List Nd):Prop where
 nd:∀ (i:Nat) (h:i<l.length),GoodN l[i]
 ls:∀ (i:Nat) (h:i<l.length),l[i].kind=3→i+1+l[i].kids.toNat≤l.length
def endF (l:List Nd):Nat→Nat→Nat
 | 0,_=>l.length+1
 | f+1,i=>match l[i]? with
  | none=>l.length+1
  | some x=>if x.kind=3 then i+1+x.kids.toNat else if manyI x=1 then endF l f (i+1) else if manyI x=2 then (if endF l f (i+1)≤l.length then endF l f (endF l f (i+1)) else endF l f (i+1)) else i+1
theorem endF_gt (l:List Nd):∀ (f i:Nat),i≤l.length→i<endF l f i
 | 0,i,h=>by rw [endF]; omega
 | f+1,i,h=>by
  rw [endF]
  cases hx:l[i]? with
  | none=>simp only; omega
  | some x=>
   have hlt:i<l.length:=(List.getElem?_eq_some_iff.1 hx).1
   have h1:=endF_gt l f (i+1) (by omega)
   simp only
   split
   ·omega
   ·split
    ·omega
    ·split
     ·split
      ·rename_i h'
       have:=endF_gt l f _ h'
       omega
      ·omega
     ·omega
theorem endF_le {l:List Nd} (hg:GoodL l):∀ (f i:Nat),endF l f i≤l.length+1
 | 0,i=>by rw [endF]; omega
 | f+1,i=>by
  rw [endF]
  cases hx:l[i]? with
  | none=>simp only; omega
  | some x=>
   obtain ⟨hlt,rfl⟩:=List.getElem?_eq_some_iff.1 hx
   have h1:=endF_le hg f (i+1)
   simp only
   split
   ·rename_i h3
    have:=hg.ls i hlt h3
    omega
   ·split
    ·exact h1
    ·split
     ·split
      ·exact endF_le hg f _
      ·exact h1
     ·omega
theorem endF_fuel (l:List Nd):∀ (f g i:Nat),l.length+1≤f+i→l.length+1≤g+i→endF l f i=endF l g i
 | 0,0,i,_,_=>rfl
 | 0,g+1,i,h,_=>by rw [endF,endF,List.getElem?_eq_none (by omega)]
 | f+1,0,i,_,h=>by rw [endF,endF,List.getElem?_eq_none (by omega)]
 | f+1,g+1,i,hf,hg=>by
  rw [endF,endF]
  cases hx:l[i]? with
  | none=>rfl
  | some x=>
   have hlt:i<l.length:=(List.getElem?_eq_some_iff.1 hx).1
   simp only
   have e1:=endF_fuel l f g (i+1) (by omega) (by omega)
   have h1:=endF_gt l g (i+1) (by omega)
   rw [e1,endF_fuel l f g (endF l g (i+1)) (by omega) (by omega)]
def eN (l:List Nd) (i:Nat):Nat:=endF l (l.length+1) i
theorem eN_gt {l:List Nd} {i:Nat} (h:i≤l.length):i<eN l i:=endF_gt l _ i h
theorem eN_le {l:List Nd} (hg:GoodL l) (i:Nat):eN l i≤l.length+1:=endF_le hg _ i
theorem eN_ge {l:List Nd} {i:Nat} (h:l.length≤i):eN l i=l.length+1:=by rw [eN,endF,List.getElem?_eq_none h]
theorem eN_eq {l:List Nd} {i:Nat} (h:i<l.length):eN l i=if l[i].kind=3 then i+1+l[i].kids.toNat else if manyI l[i]=1 then eN l (i+1) else if manyI l[i]=2 then (if eN l (i+1)≤l.length then eN l (eN l (i+1)) else eN l (i+1)) else i+1:=by
 have h1:endF l l.length (i+1)=eN l (i+1):=endF_fuel l _ _ _ (by omega) (by omega)
 have h2:=eN_gt (l:=l) (i:=i+1) (by omega)
 have h3:endF l l.length (eN l (i+1))=eN l (eN l (i+1)):=endF_fuel l _ _ _ (by omega) (by omega)
 rw [eN,endF,List.getElem?_eq_getElem h]
 simp only
 rw [h1,h3]
theorem many_cases {x:Nd} (h:GoodN x):manyI x=0∨manyI x=1∨manyI x=2:=by
 unfold manyI
 split
 ·rename_i k; have:=h.kp k; omega
 ·exact .inl rfl
theorem c98 {l:List Nd} {d:D} (hd:Sl 7 nodeC l d) (hg:GoodL l) (hl:l.length<4294967296) (n:Nat):∀ (f i:Nat),i≤l.length+1→l.length≤f+i→cl (n+f) 107 [d,.int .i64 (i:Nat)]=some (.int .i64 (eN l i:Nat),true):=by
 intro f
 induction f with
 | zero=>
  intro i hi hf
  rw [cl_run (A:=A107) rfl (n+0) _ rfl,show A107.body=B107 from rfl]
  simp only [B107,Ab.abq]
  have hge:decide ((l.length:Int)≤(i:Int))=true:=dT (by omega)
  have w:wrapD .i64 ((l.length:Int)+1)=((l.length+1:Nat):Int):=inc_i64 (by omega)
  simp only [z2,seval,hd.len,hge,w,A107,eN_ge (show l.length≤i by omega)]
  rfl
 | succ f ih=>
  intro i hi hf
  by_cases hlt:i<l.length
  case neg=>
   show cl (n+f+1) 107 _=_
   rw [cl_run (A:=A107) rfl (n+f+1) _ rfl,show A107.body=B107 from rfl]
   simp only [B107,Ab.abq]
   have hge:decide ((l.length:Int)≤(i:Int))=true:=dT (by omega)
   have w:wrapD .i64 ((l.length:Int)+1)=((l.length+1:Nat):Int):=inc_i64 (by omega)
   simp only [z2,seval,hd.len,hge,w,A107,eN_ge (show l.length≤i by omega)]
   rfl
  show cl (n+f+1) 107 _=_
  rw [cl_run (A:=A107) rfl (n+f+1) _ rfl,show A107.body=B107 from rfl]
  simp only [B107,Ab.abq]
  have hge:decide ((l.length:Int)≤(i:Int))=false:=dF (by omega)
  have w0:wrapD .i64 ((i:Int)+1)=((i+1:Nat):Int):=inc_i64 (by omega)
  have g0:=hd.cell hlt (show 0<7 by omega)
  have g2:=hd.cell hlt (show 2<7 by omega)
  have hrow:=hd.row hlt
  have h148:=c148 (n+f) l[i]
  have hE:=eN_eq hlt
  have hfz:∀ st x,frz false 20 st (.agg (nodeC x))=some (.agg (nodeC x)):=fun _ _=>rfl
  by_cases h3:l[i].kind=3
  ·obtain ⟨k0,k4⟩:=(hg.nd i hlt).k3 h3
   have w1:wrapD .i64 (((i+1:Nat):Int)+l[i].kids)=((i+1+l[i].kids.toNat:Nat):Int):=by rw [wrapD_i64 (by omega) (by omega)]; omega
   rw [if_pos h3] at hE
   simp only [z2,seval,hd.len,hd.ia hlt,g0,g2,hge,w0,nodeC,decide_eq_true h3,w1,A107,hE]
   rfl
  rw [if_neg h3] at hE
  have z0:(nodeC l[i])[0]?=some (.int .i64 l[i].kind):=rfl
  rw [z0] at g0
  have e1:=ih (i+1) (by omega) (by omega)
  have hgt:=eN_gt (l:=l) (i:=i+1) (by omega)
  have hle:=eN_le hg (i+1)
  rcases many_cases (hg.nd i hlt) with hm|hm|hm
  ·rw [hm] at h148 hE
   simp only [z2,seval,zun,hd.len,hd.ia hlt,g0,hge,w0,decide_eq_false h3,hrow,hfz,fn_pure (f:=178) rfl,ex_call,hd.fz,h148,Int.reduceLT,nb,A107]
   rw [hE]; rfl
  ·rw [hm] at h148 hE
   rw [if_pos rfl] at hE
   have hto:decide (((i+1:Nat):Int)≤(l.length:Int))=true:=dT (by omega)
   simp only [z2,seval,zun,hd.len,hd.ia hlt,g0,hge,w0,decide_eq_false h3,hrow,hfz,fn_pure (f:=178) rfl,fn_pure (f:=107) rfl,ex_call,hd.fz,h148,hto,e1,show wrapD .i64 1=1 from rfl,Int.reduceAdd,Int.reduceLT,nb,A107]
   rw [hE]; rfl
  ·rw [hm] at h148 hE
   rw [if_neg (by decide),if_pos rfl] at hE
   have hto:decide (((i+1:Nat):Int)≤(l.length:Int))=true:=dT (by omega)
   by_cases h2:eN l (i+1)≤l.length
   ·have e2:=ih (eN l (i+1)) (by omega) (by omega)
    have hto2:decide (((eN l (i+1):Nat):Int)≤(l.length:Int))=true:=dT (by omega)
    rw [if_pos h2] at hE
    simp only [z2,seval,zun,hd.len,hd.ia hlt,g0,hge,w0,decide_eq_false h3,hrow,hfz,fn_pure (f:=178) rfl,fn_pure (f:=107) rfl,ex_call,hd.fz,h148,hto,hto2,e1,e2,show wrapD .i64 1=1 from rfl,show wrapD .i64 2=2 from rfl,Int.reduceAdd,Int.reduceLT,nb,A107]
    rw [hE]; rfl
   ·have hto2:decide (((eN l (i+1):Nat):Int)≤(l.length:Int))=false:=dF (by omega)
    rw [if_neg h2] at hE
    simp only [z2,seval,zun,hd.len,hd.ia hlt,g0,hge,w0,decide_eq_false h3,hrow,hfz,fn_pure (f:=178) rfl,fn_pure (f:=107) rfl,ex_call,hd.fz,h148,hto,hto2,e1,show wrapD .i64 1=1 from rfl,show wrapD .i64 2=2 from rfl,Int.reduceAdd,Int.reduceLT,nb,A107]
    rw [hE]; rfl
end
end Zv
namespace Zv
open Go
noncomputable section
def natC (k:Nat):List D:=[.int .i64 (k:Int)]
theorem enc_nat:EncG 1 natC:=⟨fun _=>rfl,by decide,fun _=>rfl,fun _ _ _ _=>rfl⟩
theorem app_one {B:Nat} {t:Tm} {s:St} {c:Nat} {dd:List (D × List D)} {r:Option Nat} {q:D} {L:List Nat} {k ty ty':Nat} {b:D} {A:Option (D × AS)} (hA:appD ⟨t,sadd s c (.fix ty' [b]),c+1,dd,r⟩ 1 8 ty q (.ms c 0 1 1 1)=A) (hb:b = .int .i64 (k:Nat)) (hO:OwnG 1 natC B s q L) (hL:L.length<4294967295) (hc:B≤c) (hfr:∀ m,c≤m→sget s m=none) :
  ∃ q' s' c',A=some (q',⟨t,s',c',dd,r⟩)∧OwnG 1 natC B s' q' (L++[k])∧c+1≤c'∧(∀ m,m<B→sget s' m=sget s m)∧∀ m,c'≤m→sget s' m=none:=by
 subst hb
 subst hA
 obtain ⟨q',s',c',h1,h2,h3,h4,h5⟩:=own_appG enc_nat (B:=B) (l:=L) (l':=[k]) (sz:=8) (ty:=ty) (by decide) (x:=⟨t,sadd s c (.fix ty' [.int .i64 (k:Nat)]),c+1,dd,r⟩) (q:=q) (b := .ms c 0 1 1 1) rfl
  (hO.keep fun m b _ hb=>by simp only [ex_val]; rw [if_neg (by intro e; rw [e,hfr _ (Nat.le_refl _)] at hb; cases hb)]; exact hb) (by simp only [sliceCells,ex_val,↓reduceIte]; rfl) (by simp only [List.length_cons,List.length_nil]; omega) (by simp only; omega)
  (fun m hm=>by simp only at hm; simp only [ex_val]; rw [if_neg (by omega)]; exact hfr m (by omega))
 exact ⟨q',s',c',h1,h2,h3,fun m hm=>by rw [h4 m hm]; simp only [ex_val]; rw [if_neg (by omega)],h5⟩
def kidsL (l:List Nd) (i:Nat):List Nat:=match l[i]? with
 | none=>[]
 | some x=>if manyI x=1 then [i+1] else if manyI x=2 then [i+1,eN l (i+1)] else []
theorem kidsL_eq {l:List Nd} {i:Nat} (h:i<l.length):kidsL l i=if manyI l[i]=1 then [i+1] else if manyI l[i]=2 then [i+1,eN l (i+1)] else []:=by rw [kidsL,List.getElem?_eq_getElem h]
theorem kids_in {l:List Nd} (hg:GoodL l) {i:Nat} (h:i<l.length) (he:eN l i≤l.length):∀ k∈kidsL l i,i<k∧k<l.length∧eN l k≤l.length:=by
 have hE:=eN_eq h
 have hgt:=eN_gt (l:=l) (i:=i+1) (by omega)
 have n3:manyI l[i]=1∨manyI l[i]=2→¬ l[i].kind=3:=by
  intro hm k; unfold manyI at hm; rw [if_neg (by omega)] at hm; omega
 have ok:∀ k,k≤l.length→eN l k≤l.length→k<l.length:=fun k h1 h2=>by
  refine Classical.byContradiction fun h => ?_
  rw [eN_ge (by omega)] at h2; omega
 rw [kidsL_eq h]
 rcases many_cases (hg.nd i h) with hm|hm|hm
 ·rw [hm]; simp
 ·rw [if_neg (n3 (.inl hm)),hm,if_pos rfl] at hE
  rw [hm,if_pos rfl]
  intro k hk
  rw [List.mem_singleton.1 hk,←hE]
  exact ⟨by omega,ok _ (by omega) (by rw [←hE]; exact he),he⟩
 ·rw [if_neg (n3 (.inr hm)),hm,if_neg (by decide),if_pos rfl] at hE
  rw [hm,if_neg (by decide),if_pos rfl]
  have h1:eN l (i+1)≤l.length:=by
   refine Classical.byContradiction fun h' => ?_
   rw [if_neg h'] at hE; omega
  rw [if_pos h1] at hE
  intro k hk
  rcases List.mem_cons.1 hk with rfl|hk
  ·exact ⟨by omega,ok _ (by omega) h1,h1⟩
  ·rw [List.mem_singleton.1 hk]
   exact ⟨by omega,ok _ h1 (by omega),by omega⟩
theorem c149 {l:List Nd} {d:D} (hd:Sl 7 nodeC l d) (hg:GoodL l) (hl:l.length<4294967296) (n f i:Nat) (hi:i<l.length) (he:eN l i≤l.length) (hf:l.length≤f+i):∃ r,cl (n+f+1) 179 [d,.int .i64 (i:Nat)]=some (r,true)∧Sl 1 natC (kidsL l i) r:=by
 have hin:=kids_in hg hi he
 rw [kidsL_eq hi] at hin ⊢
 rw [cl_run (A:=A179) rfl (n+f+1) _ rfl,show A179.body=B179 from rfl]
 simp only [B179,Ab.abq]
 have w0:wrapD .i64 ((i:Int)+1)=((i+1:Nat):Int):=inc_i64 (by omega)
 have hrow:=hd.row hi
 have h148:=c148 (n+f) l[i]
 have hfz:∀ st x,frz false 20 st (.agg (nodeC x))=some (.agg (nodeC x)):=fun _ _=>rfl
 have e1:=c98 hd hg hl n f (i+1) (by omega) (by omega)
 rcases many_cases (hg.nd i hi) with hm|hm|hm
 ·rw [hm] at h148
  simp only [z2,seval,zun,hd.ia hi,w0,hrow,hfz,fn_pure (f:=178) rfl,ex_call,hd.fz,h148,Int.reduceLT,nb,A179,hm]
  exact ⟨.nils,rfl,fun r hr=>by simp at hr,.inl ⟨rfl,rfl⟩⟩
 ·rw [hm] at h148
  simp only [z2,seval,zun,hd.ia hi,w0,hrow,hfz,fn_pure (f:=178) rfl,ex_call,hd.fz,h148,Int.reduceLT,nb]
  generalize hA:appD _ 1 8 4 _ _=A
  obtain ⟨q',s',c',rfl,hO,hc',_,hfr'⟩:=app_one (B:=0) (L:=[]) (k:=i+1) hA rfl (.inl ⟨rfl,rfl⟩) (by decide) (Nat.le_refl _) (fun m _=>sget_st0 m)
  clear hA
  simp only [z2,seval,zun,hd.ia hi,hrow,hfz,fn_pure (f:=178) rfl,fn_pure (f:=107) rfl,ex_call,hd.fz,h148,e1,show wrapD .i64 1=1 from rfl,Int.reduceAdd,Int.reduceLT,nb,A179]
  obtain ⟨r,hr1,hr2⟩:=hO.fz enc_nat true
  refine ⟨r,?_,by rw [hm]; exact hr2⟩
  unfold pout
  simp only [hr1 18]
 ·rw [hm] at h148
  have e2:=c98 hd hg hl n f (eN l (i+1)) (eN_le hg _) (by have:=eN_gt (l:=l) (i:=i+1) (by omega); omega)
  simp only [z2,seval,zun,hd.ia hi,w0,hrow,hfz,fn_pure (f:=178) rfl,ex_call,hd.fz,h148,Int.reduceLT,nb]
  generalize hA:appD _ 1 8 4 _ _=A
  obtain ⟨q',s',c',rfl,hO,hc',_,hfr'⟩:=app_one (B:=0) (L:=[]) (k:=i+1) hA rfl (.inl ⟨rfl,rfl⟩) (by decide) (Nat.le_refl _) (fun m _=>sget_st0 m)
  clear hA
  simp only [z2,seval,zun,hd.ia hi,hrow,hfz,fn_pure (f:=178) rfl,fn_pure (f:=107) rfl,ex_call,hd.fz,h148,e1,show wrapD .i64 1=1 from rfl,Int.reduceAdd,Int.reduceLT,nb]
  generalize hA:appD _ 1 8 4 _ _=A
  obtain ⟨q2,s2,c2,rfl,hO2,hc2,_,hfr2⟩:=app_one (B:=0) (L:=[]++[i+1]) (k:=eN l (i+1)) hA rfl hO (by simp) (Nat.zero_le _) hfr'
  clear hA
  simp only [z2,seval,zun,hd.ia hi,hrow,hfz,fn_pure (f:=178) rfl,fn_pure (f:=107) rfl,ex_call,hd.fz,h148,e2,show wrapD .i64 2=2 from rfl,Int.reduceAdd,Int.reduceLT,nb,A179]
  obtain ⟨r,hr1,hr2⟩:=hO2.fz enc_nat true
  refine ⟨r,?_,by rw [hm]; exact hr2⟩
  unfold pout
  simp only [hr1 18]
end
end Zv
namespace Zv
open Go
noncomputable section
def dQ (l:List Nd):Nat→Nat→Nat
 | 0,_=>0
 | f+1,i=>(kidsL l i).foldl (fun d k=>max d (dQ l f k)) 0+1
theorem foldl_eq {α β:Type} {g h:β→α→β}:∀ (l:List α) (b:β),(∀ a,a∈l→∀ b,g b a=h b a)→l.foldl g b=l.foldl h b
 | [],_,_=>rfl
 | a::l,b,H=>by
  rw [List.foldl_cons,List.foldl_cons,H a (List.mem_cons_self ..)]
  exact foldl_eq l _ fun x hx=>H x (List.mem_cons_of_mem _ hx)
theorem dQ_fuel {l:List Nd} (hg:GoodL l):∀ (f g i:Nat),i<l.length→eN l i≤l.length→l.length≤f+i→l.length≤g+i→dQ l f i=dQ l g i
 | 0,_,i,h,_,hf,_=>by omega
 | _,0,i,h,_,_,hf=>by omega
 | f+1,g+1,i,h,he,hf,hg'=>by
  rw [dQ,dQ,foldl_eq _ _ fun k hk d => ?_]
  obtain ⟨h1,h2,h3⟩:=kids_in hg h he k hk
  rw [dQ_fuel hg f g k h2 h3 (by omega) (by omega)]
def dN (l:List Nd) (i:Nat):Nat:=dQ l l.length i
theorem dN_eq {l:List Nd} (hg:GoodL l) {i:Nat} (h:i<l.length) (he:eN l i≤l.length):dN l i=(kidsL l i).foldl (fun d k=>max d (dN l k)) 0+1:=by
 unfold dN
 rw [dQ_fuel hg l.length (l.length+1) i h he (by omega) (by omega),dQ]
theorem dN_le {l:List Nd} (hg:GoodL l):∀ (f i:Nat),i<l.length→eN l i≤l.length→l.length≤f+i→dN l i≤f
 | 0,i,h,_,hf=>by omega
 | f+1,i,h,he,hf=>by
  rw [dN_eq hg h he]
  have:∀ (K:List Nat) (d:Nat),d≤f→(∀ k∈K,dN l k≤f)→K.foldl (fun d k=>max d (dN l k)) d≤f:=by
   intro K
   induction K with
   | nil=>exact fun d hd _=>hd
   | cons a K ih=>exact fun d hd hk=>ih _ (Nat.max_le.2 ⟨hd,hk a (List.mem_cons_self ..)⟩) fun k hk'=>hk k (List.mem_cons_of_mem _ hk')
  have:=this (kidsL l i) 0 (Nat.zero_le _) fun k hk=>by
   obtain ⟨h1,h2,h3⟩:=kids_in hg h he k hk
   exact dN_le hg f k h2 h3 (by omega)
  omega
theorem kids_cases {l:List Nd} (hg:GoodL l) {i:Nat} (h:i<l.length):kidsL l i=[]∨(∃ a,kidsL l i=[a])∨∃ a b,kidsL l i=[a,b]:=by
 rw [kidsL_eq h]
 rcases many_cases (hg.nd i h) with hm|hm|hm
 ·rw [hm]; exact .inl rfl
 ·rw [hm]; exact .inr (.inl ⟨_,rfl⟩)
 ·rw [hm]; exact .inr (.inr ⟨_,_,rfl⟩)
theorem c99 {l:List Nd} {d:D} (hd:Sl 7 nodeC l d) (hg:GoodL l) (hl:l.length<4294967296) (n:Nat):∀ (f i:Nat),i<l.length→eN l i≤l.length→l.length≤f+i→cl (n+f+2) 108 [d,.int .i64 (i:Nat)]=some (.int .i64 (dN l i:Nat),true):=by
 intro f
 induction f with
 | zero=>intro i h1 _ h2; omega
 | succ f ih=>
  intro i hi he hf
  show cl (n+f+3) 108 _=_
  obtain ⟨r,h149,hr⟩:∃ r,cl (n+f+2) 179 [d,.int .i64 (i:Nat)]=some (r,true)∧Sl 1 natC (kidsL l i) r:=c149 hd hg hl n (f+1) i hi he (by omega)
  have hD:=dN_eq hg hi he
  have hin:=kids_in hg hi he
  have hmax:∀ a b:Nat,(if a<b then b else a)=max a b:=fun a b=>by split <;> omega
  rw [cl_run (A:=A108) rfl (n+f+3) _ rfl,show A108.body=B108 from rfl]
  simp only [B108,Ab.abq]
  rcases kids_cases hg hi with hK|⟨a,hK⟩|⟨a,b,hK⟩ <;> rw [hK] at hr hD hin
  ·simp only [z2,seval,zun,fn_pure (f:=179) rfl,ex_call,hd.fz,h149,hr.len,List.length_nil,Int.reduceLT,show ((0:Nat):Int)=0 from rfl,nb,A108]
   rw [hD]; rfl
  ·obtain ⟨a1,a2,a3⟩:=hin a (List.mem_singleton.2 rfl)
   have e1:=ih a a2 a3 (by omega)
   have hle:=dN_le hg l.length a a2 a3 (by omega)
   have hp:0<dN l a:=by rw [dN_eq hg a2 a3]; omega
   have hc:decide ((0:Int)<(dN l a:Nat))=true:=dT (by omega)
   have ia:iaSD 1 r (.int .i64 0)=some (.iptr ([a].map natC).flatten 0):=hr.ia1 (i:=0) (by simp)
   have at0:([a].map natC).flatten[0]?=some (.int .i64 (a:Int)):=rfl
   have w:wrapD .i64 ((dN l a:Int)+1)=((dN l a+1:Nat):Int):=inc_i64 (by omega)
   simp only [z2,seval,zun,fn_pure (f:=179) rfl,fn_pure (f:=108) rfl,ex_call,hd.fz,h149,hr.len,List.length_cons,List.length_nil,Int.reduceLT,Int.reduceAdd,show ((1:Nat):Int)=1 from rfl,show wrapD .i64 1=1 from rfl,ia,at0,e1,hc,w,nb,A108]
   rw [hD,show [a].foldl (fun d k=>max d (dN l k)) 0=dN l a from Nat.max_eq_right (Nat.zero_le _)]; rfl
  ·obtain ⟨a1,a2,a3⟩:=hin a (List.mem_cons_self ..)
   obtain ⟨b1,b2,b3⟩:=hin b (List.mem_cons_of_mem _ (List.mem_singleton.2 rfl))
   have e1:=ih a a2 a3 (by omega)
   have e2:=ih b b2 b3 (by omega)
   have hle:=dN_le hg l.length a a2 a3 (by omega)
   have hleb:=dN_le hg l.length b b2 b3 (by omega)
   have hp:0<dN l a:=by rw [dN_eq hg a2 a3]; omega
   have hc:decide ((0:Int)<(dN l a:Nat))=true:=dT (by omega)
   have ia:iaSD 1 r (.int .i64 0)=some (.iptr ([a,b].map natC).flatten 0):=hr.ia1 (i:=0) (by simp)
   have ib:iaSD 1 r (.int .i64 1)=some (.iptr ([a,b].map natC).flatten 1):=hr.ia1 (i:=1) (by simp)
   have at0:([a,b].map natC).flatten[0]?=some (.int .i64 (a:Int)):=rfl
   have at1:([a,b].map natC).flatten[1]?=some (.int .i64 (b:Int)):=rfl
   have hF:[a,b].foldl (fun d k=>max d (dN l k)) 0=max (dN l a) (dN l b):=by simp
   rw [hF] at hD
   have w:wrapD .i64 ((dN l a:Int)+1)=((dN l a+1:Nat):Int):=inc_i64 (by omega)
   have wb:wrapD .i64 ((dN l b:Int)+1)=((dN l b+1:Nat):Int):=inc_i64 (by omega)
   by_cases hab:dN l a<dN l b
   ·have hc2:decide ((dN l a:Int)<(dN l b:Nat))=true:=dT (by omega)
    simp only [z2,seval,zun,fn_pure (f:=179) rfl,fn_pure (f:=108) rfl,ex_call,hd.fz,h149,hr.len,List.length_cons,List.length_nil,Int.reduceLT,Int.reduceAdd,show ((2:Nat):Int)=2 from rfl,show wrapD .i64 1=1 from rfl,show wrapD .i64 2=2 from rfl,ia,ib,at0,at1,e1,e2,hc,hc2,wb,nb,A108]
    rw [hD,Nat.max_eq_right (Nat.le_of_lt hab)]; rfl
   ·have hc2:decide ((dN l a:Int)<(dN l b:Nat))=false:=dF (by omega)
    simp only [z2,seval,zun,fn_pure (f:=179) rfl,fn_pure (f:=108) rfl,ex_call,hd.fz,h149,hr.len,List.length_cons,List.length_nil,Int.reduceLT,Int.reduceAdd,show ((2:Nat):Int)=2 from rfl,show wrapD .i64 1=1 from rfl,show wrapD .i64 2=2 from rfl,ia,ib,at0,at1,e1,e2,hc,hc2,w,nb,A108]
    rw [hD,Nat.max_eq_left (by omega)]; rfl
end
end Zv
namespace Zv
open Go
noncomputable section
def wrongP (l:List Nd) (i:Nat):Option D:=match l[i]? with
 | some x=>if wrongI x=0 then none else some (e2 i (wrongI x))
 | none=>none
def listP (l:List Nd) (i:Nat):Option D:=match l[i]? with
 | some x=>if x.kind=3∧listedB l i x.kids.toNat=false then some (e2 i 6) else none
 | none=>none
def tailD (l:List Nd):D:=if l.length<eN l 0 then e2 l.length 6 else if eN l 0<l.length then e2 (eN l 0) 6 else if 24<dN l 0 then e2 0 3 else e2 0 0
def exD (l:List Nd):D:=if l.length=0 then e2 0 6 else if 400<l.length then e2 0 3 else scan (wrongP l) (scan (listP l) (tailD l) l.length 0) l.length 0
def NdOk (l:List Nd):Prop:=∀ x∈l,x.name.length<9223372036854775807∧x.text.length<4294967296
theorem listed_le {l:List Nd} {i k:Nat} (hi:i<l.length) (h:listedB l i k=true):i+1+k≤l.length:=by
 cases k with
 | zero=>omega
 | succ k=>
  have:=allN_iff.1 h k (by omega)
  refine Classical.byContradiction fun hc => ?_
  rw [numB_ge (by omega)] at this
  cases this
theorem goodL_of {l:List Nd} (h1:∀ j,j<l.length→wrongP l j=none) (h2:∀ j,j<l.length→listP l j=none):GoodL l:=by
 have hw:∀ i (h:i<l.length),wrongI l[i]=0:=fun i h=>by
  have:=h1 i h
  unfold wrongP at this
  rw [List.getElem?_eq_getElem h] at this
  simp only at this
  split at this
  ·assumption
  ·cases this
 refine ⟨fun i h=>good_of (hw i h),fun i h h3=>listed_le h ?_⟩
 have:=h2 i h
 unfold listP at this
 rw [List.getElem?_eq_getElem h] at this
 simp only at this
 split at this
 ·cases this
 ·rename_i hn
  cases hb:listedB l i l[i].kids.toNat
  ·exact absurd ⟨h3,hb⟩ hn
  ·rfl
theorem c48 (n:Nat) {l:List Nd} {d:D} (hd:Sl 7 nodeC l d) (hl:l.length<4294967296) (hok:l.length≤400→NdOk l):cl (n+403) 68 [d]=some (exD l,true):=by
 rw [cl_run (A:=A68) rfl (n+403) _ rfl,show A68.body=B68 from rfl]
 simp only [B68,Ab.abq]
 by_cases h0:l.length=0
 ·have hc:decide ((l.length:Int)=0)=true:=dT (by omega)
  simp only [z2,seval,hd.len,hc,nb,A68]
  rw [exD,if_pos h0]; rfl
 have hc0:decide ((l.length:Int)=0)=false:=dF (by omega)
 by_cases h4:400<l.length
 ·have hc:decide ((400:Int)<l.length)=true:=dT (by omega)
  simp only [z2,seval,hd.len,hc0,hc,nb,A68]
  rw [exD,if_neg h0,if_pos h4]; rfl
 have hc4:decide ((400:Int)<l.length)=false:=dF (by omega)
 rw [show exD l=scan (wrongP l) (scan (listP l) (tailD l) l.length 0) l.length 0 from by rw [exD,if_neg h0,if_neg h4]]
 have hfz:∀ st x,frz false 20 st (.agg (nodeC x))=some (.agg (nodeC x)):=fun _ _=>rfl
 simp only [z2,seval,hd.len,hc0,hc4,nb]
 generalize hz:zloop KK _ _=rl
 refine zfor rl hz l.length (KK_lt (by omega)) (by omega) (fun i t s c=>tget t 0=d∧∀ j,j<i→wrongP l j=none) (by simp [ex_val]) (by simp [ex_val]) ?_
 rintro i t s c hi ⟨q0,hn⟩ q4
 by_cases hlt:i<l.length
 ·have hrow:=hd.row hlt
  have h96:=c96 (n+396) l[i] (hok (by omega) _ (List.getElem_mem hlt)).1 (hok (by omega) _ (List.getElem_mem hlt)).2
  by_cases hw:wrongI l[i]=0
  ·have hp:wrongP l i=none:=by rw [wrongP,List.getElem?_eq_getElem hlt]; exact if_pos hw
   rw [hw] at h96
   simp only [z2,seval,q0,q4,hd.len,lt_dec hlt,hd.ia hlt,hrow,hfz,fn_pure (f:=105) rfl,ex_call,h96,Int.reduceEq,nb]
   exact ⟨hlt,trivial,trivial,trivial,trivial,none_step hn hp⟩
  ·have hp:wrongP l i=some (e2 i (wrongI l[i])):=by rw [wrongP,List.getElem?_eq_getElem hlt]; exact if_neg hw
   simp only [z2,seval,q0,q4,hd.len,lt_dec hlt,hd.ia hlt,hrow,hfz,fn_pure (f:=105) rfl,ex_call,h96,decide_eq_false hw,nb,A68]
   rw [scan_at hlt hp hn]; rfl
 ·have e1:i=l.length:=by omega
  subst e1
  rw [scan_end hn]
  simp only [z2,seval,q0,q4,hd.len,ge_dec (Nat.le_refl l.length)]
  generalize hz2:zloop KK _ _=rl2
  refine zfor rl2 hz2 l.length (KK_lt (by omega)) (by omega) (fun i t s c=>tget t 0=d∧∀ j,j<i→listP l j=none) (by simp [ex_val]) (by simp [ex_val,q0]) ?_
  rintro i t s c hi ⟨q0,hn2⟩ q6
  by_cases hlt:i<l.length
  ·have g0:=hd.cell hlt (show 0<7 by omega)
   have hgl:l[i]?=some l[i]:=List.getElem?_eq_getElem hlt
   have hgd:GoodN l[i]:=good_of (by
    have:=hn i hlt
    unfold wrongP at this
    rw [hgl] at this
    simp only at this
    split at this
    ·assumption
    ·cases this)
   by_cases h3:l[i].kind=3
   ·obtain ⟨k0,k4⟩:=hgd.k3 h3
    have h97:=c97 (n+402) hd hl hlt (k:=l[i].kids.toNat) (by omega) (by omega)
    cases hb:listedB l i l[i].kids.toNat
    ·have hp:listP l i=some (e2 i 6):=by rw [listP,hgl]; exact if_pos ⟨h3,hb⟩
     rw [hb] at h97
     simp only [z2,seval,q0,q6,hd.len,lt_dec hlt,hd.ia hlt,g0,nodeC,decide_eq_true h3,fn_pure (f:=106) rfl,ex_call,hd.fz,h97,nb,A68]
     rw [scan_at hlt hp hn2]; rfl
    ·have hp:listP l i=none:=by rw [listP,hgl]; exact if_neg (by rw [hb]; simp)
     rw [hb] at h97
     simp only [z2,seval,q0,q6,hd.len,lt_dec hlt,hd.ia hlt,g0,nodeC,decide_eq_true h3,fn_pure (f:=106) rfl,ex_call,hd.fz,h97,nb]
     exact ⟨hlt,trivial,trivial,trivial,trivial,none_step hn2 hp⟩
   ·have hp:listP l i=none:=by rw [listP,hgl]; exact if_neg (fun h=>h3 h.1)
    simp only [z2,seval,q0,q6,hd.len,lt_dec hlt,hd.ia hlt,g0,nodeC,decide_eq_false h3,nb]
    exact ⟨hlt,trivial,trivial,trivial,trivial,none_step hn2 hp⟩
  ·have e1:i=l.length:=by omega
   subst e1
   rw [scan_end hn2]
   have hg:=goodL_of hn hn2
   have h98:cl (n+402) 107 [d,.int .i64 0]=some (.int .i64 (eN l 0:Nat),true):=c98 hd hg hl (n+2) 400 0 (by omega) (by omega)
   have hE:=eN_le hg 0
   by_cases t1:l.length<eN l 0
   ·have k1:decide ((l.length:Int)<(eN l 0:Nat))=true:=dT (by omega)
    simp only [z2,seval,q0,q6,hd.len,ge_dec (Nat.le_refl l.length),fn_pure (f:=107) rfl,ex_call,hd.fz,h98,k1,nb,A68]
    rw [tailD,if_pos t1]; rfl
   have k1:decide ((l.length:Int)<(eN l 0:Nat))=false:=dF (by omega)
   by_cases t2:eN l 0<l.length
   ·have k2:decide (((eN l 0:Nat):Int)<l.length)=true:=dT (by omega)
    simp only [z2,seval,q0,q6,hd.len,ge_dec (Nat.le_refl l.length),fn_pure (f:=107) rfl,ex_call,hd.fz,h98,k1,k2,nb,A68]
    rw [tailD,if_neg t1,if_pos t2]; rfl
   have k2:decide (((eN l 0:Nat):Int)<l.length)=false:=dF (by omega)
   have h99:cl (n+402) 108 [d,.int .i64 0]=some (.int .i64 (dN l 0:Nat),true):=c99 hd hg hl n 400 0 (by omega) (by omega) (by omega)
   by_cases t3:24<dN l 0
   ·have k3:decide ((24:Int)<(dN l 0:Nat))=true:=dT (by omega)
    simp only [z2,seval,q0,q6,hd.len,ge_dec (Nat.le_refl l.length),fn_pure (f:=107) rfl,fn_pure (f:=108) rfl,ex_call,hd.fz,h98,h99,k1,k2,k3,nb,A68]
    rw [tailD,if_neg t1,if_neg t2,if_pos t3]; rfl
   ·have k3:decide ((24:Int)<(dN l 0:Nat))=false:=dF (by omega)
    simp only [z2,seval,q0,q6,hd.len,ge_dec (Nat.le_refl l.length),fn_pure (f:=107) rfl,fn_pure (f:=108) rfl,ex_call,hd.fz,h98,h99,k1,k2,k3,nb,A68]
    rw [tailD,if_neg t1,if_neg t2,if_neg t3]; rfl
end
end Zv
namespace Zv
open Go
noncomputable section
theorem f121 (n j:Nat) (x:Nd) (st:St) (c:Nat):fn n (j+1) (.fn 97) [.agg (nodeC x)] st c = .ok (.ret (.bool !decide (x.kind=1))) (sadd st c (.fix 50 (nodeC x))) (c+1):=by
 rw [fn_in (f:=97) (A:=A97) rfl rfl rfl rfl n j _ _ _ rfl,show A97.body=B97 from rfl]
 unfold B97 nodeC
 simp only [z0,↓reduceIte,Nat.reduceEqDiff,Nat.reduceAdd,Nat.reduceLeDiff,reduceCtorEq,nb,A97]
theorem f120 (n j:Nat) {l:List Nd} {d:D} (hd:Sl 7 nodeC l d) (hl:l.length<9223372036854775807) {st:St} {c:Nat} :
  ∃ (st':St) (c':Nat),fn n (j+4) (.fn 96) [d,.fn (.func 97) [] []] st c = .ok (.ret (.bool !(allN l.length (numB l)))) st' c'∧c≤c'∧(∀ x,x<c→sget st' x=sget st x)∧∀ m,c'≤m→(∀ k,c≤k→sget st k=none)→sget st' m=none:=by
 have main:∃ (st':St) (c':Nat),fn n (j+3) (.fn 169) [d,.fn (.func 97) [] []] st c = .ok (.ret (.int .i64 (scan (fun i=>if numB l i=true then none else some (i:Int)) (-1) l.length 0))) st' c'∧c≤c'∧(∀ x,x<c→sget st' x=sget st x)∧∀ m,c'≤m→(∀ k,c≤k→sget st k=none)→sget st' m=none:=by
  rw [fn_in (f:=169) (A:=A169) rfl rfl rfl rfl n (j+2) _ _ _ rfl,show A169.body=B169 from rfl]
  simp only [B169,Ab.abq]
  simp only [z0,↓reduceIte,Nat.reduceEqDiff,Nat.reduceAdd,Nat.reduceLeDiff,reduceCtorEq,hd.len]
  generalize hz:zloop KK _ _=rl
  refine zrange rl hz l.length (KK_lt hl) hl (fun i t s c'=>tget t 0=d∧tget t 1 = .fn (.func 97) [] []∧c≤c'∧(∀ x,x<c→sget s x=sget st x)∧(∀ m,c'≤m→(∀ k,c≤k→sget st k=none)→sget s m=none)∧∀ j,j<i→(if numB l j=true then none else some (j:Int))=none) (by decide) (by simp [ex_val]) (by simp [ex_val]) (by simp [ex_val]; exact fun m hm hk=>hk m hm) ?_ ?_
  ·rintro i t s c1 hi ⟨q0,q1,hc,hfr,hfree,hn⟩ hti htn
   have hrow:=hd.row hi
   have hnB:=numB_lt hi
   have h121:=f121 n (j+1) l[i] s c1
   cases hb:decide (l[i].kind=1)
   ·rw [hb] at hnB h121
    simp only [z2,↓reduceIte,Nat.reduceEqDiff,Nat.reduceAdd,Nat.reduceLeDiff,reduceCtorEq,q0,q1,hti,htn,hd.ia hi,hrow,zo_cv,cf_fn,h121,nb,A169]
    refine ⟨_,_,by rw [scan_at hi (if_neg (by rw [hnB]; decide)) hn],by omega,fun x hx=>by rw [sget_sadd,if_neg (by omega)]; exact hfr x hx,fun m hm hk=>by rw [sget_sadd,if_neg (by omega)]; exact hfree m (by omega) hk⟩
   ·rw [hb] at hnB h121
    simp only [z2,↓reduceIte,Nat.reduceEqDiff,Nat.reduceAdd,Nat.reduceLeDiff,reduceCtorEq,q0,q1,hti,htn,hd.ia hi,hrow,zo_cv,cf_fn,h121,nb]
    exact ⟨trivial,trivial,trivial,.inr (.inr trivial),by decide,by decide,trivial,trivial,by omega,fun x hx=>by rw [if_neg (by omega)]; exact hfr x hx,fun m hm hk=>by rw [if_neg (by omega)]; exact hfree m (by omega) hk,none_step hn (if_pos hnB)⟩
  ·rintro t s c1 ⟨q0,q1,hc,hfr,hfree,hn⟩ hti htn
   simp only [z2,↓reduceIte,Nat.reduceEqDiff,Nat.reduceAdd,Nat.reduceLeDiff,reduceCtorEq,q0,q1,hti,htn,A169]
   exact ⟨s,c1,by rw [scan_end hn],hc,hfr,hfree⟩
 obtain ⟨st',c',h165,hc,hfr,hfree⟩:=main
 refine ⟨st',c',?_,hc,hfr,hfree⟩
 rw [fn_in (f:=96) (A:=A96) rfl rfl rfl rfl n (j+3) _ _ _ rfl,show A96.body=B96 from rfl]
 simp only [B96,Ab.abq]
 rcases scan_cases (fun i=>if numB l i=true then none else some (i:Int)) (-1) l.length 0 with ⟨h1,h2⟩|⟨m,r,_,h2,h3,_,h5⟩
 ·rw [h2] at h165
  rw [show allN l.length (numB l)=true from allN_iff.2 fun i hi=>by
   have:=h1 i (by omega) (by omega)
   cases hb:numB l i
   ·rw [hb] at this; cases this
   ·rfl]
  simp only [z2,↓reduceIte,Nat.reduceEqDiff,Nat.reduceAdd,Nat.reduceLeDiff,reduceCtorEq,h165,A96]
  rfl
 ·rw [h5] at h165
  have hb:numB l m=false:=by
   cases hb:numB l m
   ·rfl
   ·rw [hb] at h3; cases h3
  rw [hb] at h3
  cases h3
  rw [allN_not (show m<l.length by omega) hb]
  simp only [z2,↓reduceIte,Nat.reduceEqDiff,Nat.reduceAdd,Nat.reduceLeDiff,reduceCtorEq,h165,show decide ((0:Int)≤(m:Int))=true from decide_eq_true (by omega),A96]
end
end Zv
namespace Zv
open Go
noncomputable section
def gE (l:List Nd) (i:Nat):Nat:=min (eN l i) l.length
def gK (l:List Nd) (i:Nat):List Nat:=match l[i]? with
 | none=>[]
 | some x=>if manyI x=1 then (if i+1<l.length then [i+1] else []) else if manyI x=2 then (if i+1<l.length then (if gE l (i+1)<l.length then [i+1,gE l (i+1)] else [i+1]) else []) else []
theorem gK_eq {l:List Nd} {i:Nat} (h:i<l.length):gK l i=if manyI l[i]=1 then (if i+1<l.length then [i+1] else []) else if manyI l[i]=2 then (if i+1<l.length then (if gE l (i+1)<l.length then [i+1,gE l (i+1)] else [i+1]) else []) else []:=by rw [gK,List.getElem?_eq_getElem h]
theorem gE_gt {l:List Nd} {i:Nat} (h:i<l.length):i<gE l i:=by
 unfold gE
 have:=eN_gt (l:=l) (i:=i) (by omega)
 omega
theorem gK_in {l:List Nd} {i k:Nat} (h:k∈gK l i):i<k∧k<l.length:=by
 unfold gK at h
 cases hx:l[i]? with
 | none=>rw [hx] at h; cases h
 | some x=>
  rw [hx] at h
  simp only at h
  split at h
  ·split at h
   ·rw [List.mem_singleton.1 h]; exact ⟨by omega,by assumption⟩
   ·cases h
  ·split at h
   ·split at h
    ·rename_i h1
     have:=gE_gt h1
     split at h
     ·rcases List.mem_cons.1 h with rfl|h
      ·exact ⟨by omega,by assumption⟩
      ·rw [List.mem_singleton.1 h]; exact ⟨by omega,by assumption⟩
     ·rw [List.mem_singleton.1 h]; exact ⟨by omega,by assumption⟩
    ·cases h
   ·cases h
def gDF (l:List Nd):Nat→Nat→Nat
 | 0,_=>0
 | f+1,i=>(gK l i).foldl (fun d k=>max d (gDF l f k)) 0+1
theorem gDF_fuel {l:List Nd}:∀ (f g i:Nat),i<l.length→l.length≤f+i→l.length≤g+i→gDF l f i=gDF l g i
 | 0,_,i,h,hf,_=>by omega
 | _,0,i,h,_,hf=>by omega
 | f+1,g+1,i,h,hf,hg=>by
  rw [gDF,gDF,foldl_eq _ _ fun k hk d => ?_]
  obtain ⟨h1,h2⟩:=gK_in hk
  rw [gDF_fuel f g k h2 (by omega) (by omega)]
def gD (l:List Nd) (i:Nat):Nat:=gDF l l.length i
theorem gD_eq {l:List Nd} {i:Nat} (h:i<l.length):gD l i=(gK l i).foldl (fun d k=>max d (gD l k)) 0+1:=by
 unfold gD
 rw [gDF_fuel l.length (l.length+1) i h (by omega) (by omega),gDF]
theorem gD_le {l:List Nd}:∀ (f i:Nat),i<l.length→l.length≤f+i→gD l i≤f
 | 0,i,h,hf=>by omega
 | f+1,i,h,hf=>by
  rw [gD_eq h]
  have:∀ (K:List Nat) (d:Nat),d≤f→(∀ k∈K,gD l k≤f)→K.foldl (fun d k=>max d (gD l k)) d≤f:=by
   intro K
   induction K with
   | nil=>exact fun d hd _=>hd
   | cons a K ih=>exact fun d hd hk=>ih _ (Nat.max_le.2 ⟨hd,hk a (List.mem_cons_self ..)⟩) fun k hk'=>hk k (List.mem_cons_of_mem _ hk')
  have:=this (gK l i) 0 (Nat.zero_le _) fun k hk=>by
   obtain ⟨h1,h2⟩:=gK_in hk
   exact gD_le f k h2 (by omega)
  omega
theorem gK_kids {l:List Nd} (hg:GoodL l) {i:Nat} (h:i<l.length) (he:eN l i≤l.length):gK l i=kidsL l i:=by
 have hin:=kids_in hg h he
 rw [kidsL_eq h] at hin ⊢
 rw [gK_eq h]
 rcases many_cases (hg.nd i h) with hm|hm|hm <;> rw [hm] at hin ⊢
 ·rfl
 ·have:=hin (i+1) (by simp)
  rw [if_pos rfl,if_pos this.2.1]; rfl
 ·have h1:=hin (i+1) (by simp)
  have h2:=hin (eN l (i+1)) (by simp)
  have e:gE l (i+1)=eN l (i+1):=by unfold gE; omega
  rw [if_neg (by decide),if_pos rfl,if_pos h1.2.1,e,if_pos h2.2.1]; rfl
theorem gD_dN {l:List Nd} (hg:GoodL l):∀ (f i:Nat),i<l.length→eN l i≤l.length→l.length≤f+i→gD l i=dN l i
 | 0,i,h,_,hf=>by omega
 | f+1,i,h,he,hf=>by
  rw [gD_eq h,dN_eq hg h he,gK_kids hg h he,foldl_eq _ _ fun k hk d => ?_]
  obtain ⟨h1,h2,h3⟩:=kids_in hg h he k hk
  rw [gD_dN hg f k h2 h3 (by omega)]
theorem gE_eq {l:List Nd} (hg:GoodL l) {i:Nat} (h:i<l.length):gE l i=if l[i].kind=3 then i+1+l[i].kids.toNat else if manyI l[i]=1 then (if i+1<l.length then gE l (i+1) else i+1) else if manyI l[i]=2 then (if i+1<l.length then (if gE l (i+1)<l.length then gE l (gE l (i+1)) else gE l (i+1)) else i+1) else i+1:=by
 have hE:=eN_eq h
 have h1:=eN_le hg i
 have h2:=eN_le hg (i+1)
 have h3:=eN_gt (l:=l) (i:=i+1) (by omega)
 have hg1:∀ j,gE l j=min (eN l j) l.length:=fun _=>rfl
 by_cases k3:l[i].kind=3
 ·rw [if_pos k3] at hE ⊢
  have:=hg.ls i h k3
  rw [hg1,hE]; omega
 rw [if_neg k3] at hE ⊢
 by_cases m1:manyI l[i]=1
 ·rw [if_pos m1] at hE ⊢
  by_cases hi:i+1<l.length
  ·rw [if_pos hi,hg1,hg1,hE]
  ·rw [if_neg hi,hg1,hE,eN_ge (by omega)]; omega
 rw [if_neg m1] at hE ⊢
 by_cases m2:manyI l[i]=2
 ·rw [if_pos m2] at hE ⊢
  by_cases hi:i+1<l.length
  ·rw [if_pos hi]
   by_cases hx:eN l (i+1)<l.length
   ·have e:gE l (i+1)=eN l (i+1):=by rw [hg1]; omega
    rw [if_pos (by omega)] at hE
    rw [e,if_pos hx,hg1,hg1,hE]
   ·have e:gE l (i+1)=l.length:=by rw [hg1]; omega
    rw [e,if_neg (by omega),hg1,hE]
    split
    ·rw [eN_ge (by omega)]; omega
    ·omega
  ·rw [if_neg hi,hg1,hE,eN_ge (show l.length≤i+1 by omega),if_neg (by omega)]; omega
 ·rw [if_neg m2] at hE ⊢
  rw [hg1,hE]; omega
def rg (n:Nat) (f:Nat→D):List D:=(List.range n).map f
theorem rg_len (n:Nat) (f:Nat→D):(rg n f).length=n:=by simp [rg]
theorem rg_get {n i:Nat} (h:i<n) (f:Nat→D):(rg n f)[i]?=some (f i):=by simp [rg,h]
theorem rg_set (n i:Nat) (f:Nat→D) (v:D):setAt (rg n f) i [v]=rg n fun j=>if j=i then v else f j:=by
 show (rg n f).set i v=_
 refine List.ext_getElem? fun j => ?_
 unfold rg
 rw [List.getElem?_set]
 by_cases hj:j<n
 ·by_cases hi:i=j
  ·subst hi; simp [hj]
  ·have:¬ j=i:=fun h=>hi h.symm
   simp [hj,hi,this]
 ·have:¬ (i=j∧j<n):=fun h=>hj h.2
  simp [hj]; intro h; omega
theorem rg_congr {n:Nat} {f g:Nat→D} (h:∀ j,j<n→f j=g j):rg n f=rg n g:=List.map_congr_left fun j hj=>h j (List.mem_range.1 hj)
theorem rep_rg (n:Nat) (d:D):rep n [d]=rg n fun _=>d:=by
 induction n with
 | zero=>rfl
 | succ n ih => 
  show [d]++rep n [d]=_
  rw [ih]; unfold rg
  rw [List.range_succ_eq_map,List.map_cons,List.map_map]; rfl
theorem ia_ms {n i:Nat} (h:i<n) (e m:Nat):iaSD 1 (.ms e 0 1 n m) (.int .i64 (i:Nat))=some (.ptr e i):=by
 unfold iaSD
 simp only [idxD_nat h,Option.bind_eq_bind,Option.bind_some,Nat.beq_refl,cond_true,Nat.mul_one,Nat.zero_add]
end
end Zv
