/- What functions come to: trees grow, parts. Conditions: none. -/
import Derived.Test.YtoefcncofakjkaaGreatDoorCA
import Derived.Test.YtoefcncofakjkaaGreatDoorQA
set_option linter.unusedVariables false
set_option linter.unusedSimpArgs false
set_option maxRecDepth 100000
namespace Zv
open Go Ab
noncomputable section
def YB:AC:=(.block 14 (s (s (r [m 85 9,m 86 4,b 87 .geq 85 86]) (.cond (.t 87) (s (r [c 3 (.bool true)]) (.exit 12)) .skip)) (s (.reg (some [(3,0),(4,0),(5,0),(6,0),(7,0),(8,0),(9,0),(10,0),(0,1),(1,1),(2,1),(11,0),(12,0)]) [f 91 2 2,l 92 91,m 93 8,u 94 (.iaS 1 (.t 92) (.t 93)),l 95 94,m 96 9,u 97 (.bsl 1 1 [(i 0)] [(0,1,(.t 96))]),u 98 (.app 1 8 4 (.t 95) (.t 97)),f 88 2 2,l 89 88,m 90 8,u 99 (.iaS 1 (.t 89) (.t 90)),w (.st 1 (.t 99) (.t 98))]) (s (.reg (some [(0,0),(1,0),(2,0),(3,0),(4,0),(5,0),(6,0),(7,0),(8,0),(9,0),(10,0),(11,0),(12,0),(13,0),(14,0),(15,0)]) [f 100 1 2,l 101 100,m 102 8,f 103 1 2,l 104 103,m 105 8,u 106 (.iaS 1 (.t 104) (.t 105)),l 107 106,f 108 1 2,l 109 108,m 110 9,u 111 (.iaS 1 (.t 109) (.t 110)),l 112 111,u 113 (.mm true (.t 107) (.t 112)),u 114 (.iaS 1 (.t 101) (.t 102)),w (.st 1 (.t 114) (.t 113))]) (r [f 115 0 2,l 116 115,m 117 9,u 118 (.iaS 1 (.t 116) (.t 117)),l 119 118,m 9 119])))))
def YN:AC:=(.loop (s (r [b 84 .lss 83 82]) (s (.cond (.t 84) .skip (.exit 12)) (s YB (r [d 120 .add 83 (i 1),m 83 120])))))
def YT:AC:=(s (r [f 121 0 2,l 122 121,m 123 8,m 124 9,u 125 (.iaS 1 (.t 122) (.t 123)),w (.st 1 (.t 125) (.t 124))]) (r [f 126 1 2,l 127 126,m 128 8,u 129 (.iaS 1 (.t 127) (.t 128)),l 130 129,d 131 .add 130 (i 1),u 132 (.iaS 1 (.t 127) (.t 128)),w (.st 1 (.t 132) (.t 131))]))
def YI:AC:=(.block 10 (s (r [m 54 8,d 55 .add 54 (i 1),m 9 55]) (s (s (r [m 56 0,m 57 8,u 58 (.iaS 7 (.t 56) (.t 57)),f 59 0 58,l 60 59,d 61 .eql 60 (i 3)]) (.cond (.t 61) (r [m 62 9,m 63 0,m 64 8,u 65 (.iaS 7 (.t 63) (.t 64)),f 66 2 65,l 67 66,b 68 .add 62 67,m 9 68]) .skip)) (s (s (r [m 70 0,m 71 8,u 72 (.iaS 7 (.t 70) (.t 71)),u 73 (.ld (some 7) (.t 72)),u 74 (.call 99 [(.t 73)]),m 69 74,e 75 0 69,e 76 1 69,u 10 (.new 50 (.c (.agg [(i 0),(i 0),(i 0),(.str []),(.str []),(i 0),(i 0)]))),w (.st 7 (.t 10) (.t 75)),m 11 76]) (s (r [m 77 11]) (.cond (.t 77) (s (r [m 78 0,m 79 8,u 80 (.iaS 7 (.t 78) (.t 79)),f 81 2 80,l 82 81,c 83 (i 0)]) (.block 12 YN)) .skip))) YT))))
def Y2:AC:=(s (r [u 133 (.ld (some 4) (.t 2)),m 134 3,w (.st 4 (.t 2) (.t 133)),m 3 134]) .ret)
def Y1:AC:=(s (s (r [m 48 4,d 49 .sub 48 (i 1),m 8 49]) (.block 8 (.loop (s (s (r [m 50 8,d 51 .geq 50 (i 0)]) (.cond (.t 51) .skip (.exit 8))) (s YI (r [m 52 8,d 53 .sub 52 (i 1),m 8 53])))))) Y2)
def Y0:AC:=(s (r [m 23 0,u 24 (.len false (.t 23)),c 25 (i 0)]) (.block 0 (.loop (s (r [b 26 .lss 25 24]) (s (.cond (.t 26) .skip (.exit 0)) (s (.block 2 (s (r [m 27 25,u 28 (.iaS 7 (.t 23) (.t 25)),u 29 (.ld (some 7) (.t 28)),u 6 (.new 50 (.c (.agg [(i 0),(i 0),(i 0),(.str []),(.str []),(i 0),(i 0)]))),m 5 27,w (.st 7 (.t 6) (.t 29))]) (s (r [f 30 0 6,l 31 30,d 32 .eql 31 (i 3)]) (.cond (.t 32) (s (r [m 33 5,d 34 .add 33 (i 1),m 7 34]) (.block 4 (.loop (s (s (r [m 35 7,m 36 5,f 37 2 6,l 38 37,b 39 .add 36 38,b 40 .leq 35 39]) (.cond (.t 40) .skip (.exit 4))) (s (.block 6 (r [f 43 3 2,l 44 43,m 45 7,u 46 (.iaS 1 (.t 44) (.t 45)),w (.st 1 (.t 46) (.c (.bool true)))])) (r [m 41 7,d 42 .add 41 (i 1),m 7 42])))))) .skip)))) (r [d 47 .add 25 (i 1),m 25 47])))))))
theorem B122_eq:B98=(s (r [u 2 (.new 165 (.c (.agg [.nils,.nils,.nils,.nils]))),c 3 (.bool false)]) (s (r [m 12 0,u 13 (.len false (.t 12)),m 4 13]) (s (.reg (some [(0,0),(1,0),(2,0),(3,0),(4,0),(5,0),(6,0),(7,0),(8,0),(9,0)]) [m 14 4,u 15 (.mks 1 8 [(i 0)] (.t 14) (.t 14)),m 16 4,u 17 (.mks 1 8 [(i 0)] (.t 16) (.t 16)),m 18 4,u 19 (.mks 1 24 [.nils] (.t 18) (.t 18)),m 20 4,u 21 (.mks 1 1 [(.bool false)] (.t 20) (.t 20)),u 22 (.bld [.nils,.nils,.nils,.nils] [(0,1,(.t 15)),(1,1,(.t 17)),(2,1,(.t 19)),(3,1,(.t 21))]),w (.st 4 (.t 2) (.t 22))]) (s Y0 Y1)))):=rfl
end
end Zv
namespace Zv
open Go
noncomputable section
structure GS (L:Nat) (fE fD fK fN:Nat→D) (s:St):Prop where
 b0:sget s 0=some (.fix 165 [.ms 2 0 1 L L,.ms 4 0 1 L L,.ms 6 0 1 L L,.ms 8 0 1 L L])
 be:sget s 2=some (.fix 0 (rg L fE))
 bd:sget s 4=some (.fix 0 (rg L fD))
 bk:sget s 6=some (.fix 0 (rg L fK))
 bn:sget s 8=some (.fix 0 (rg L fN))
theorem GS.add {L:Nat} {fE fD fK fN:Nat→D} {s s':St} (h:GS L fE fD fK fN s) (hs:∀ m,m<11→sget s' m=sget s m):GS L fE fD fK fN s':=
 ⟨by rw [hs 0 (by decide)]; exact h.b0,by rw [hs 2 (by decide)]; exact h.be,by rw [hs 4 (by decide)]; exact h.bd,by rw [hs 6 (by decide)]; exact h.bk,by rw [hs 8 (by decide)]; exact h.bn⟩
theorem GS.setN {L:Nat} {fE fD fK fN:Nat→D} {s:St} (h:GS L fE fD fK fN s) (g:Nat→D):GS L fE fD fK g (sset s 8 (.fix 0 (rg L g))):=by
 refine ⟨?_,?_,?_,?_,?_⟩ <;> rw [sget_sset] <;> simp only [Nat.reduceEqDiff,↓reduceIte]
 ·exact h.b0
 ·exact h.be
 ·exact h.bd
 ·exact h.bk
theorem GS.setE {L:Nat} {fE fD fK fN:Nat→D} {s:St} (h:GS L fE fD fK fN s) (g:Nat→D):GS L g fD fK fN (sset s 2 (.fix 0 (rg L g))):=by
 refine ⟨?_,?_,?_,?_,?_⟩ <;> rw [sget_sset] <;> simp only [Nat.reduceEqDiff,↓reduceIte]
 ·exact h.b0
 ·exact h.bd
 ·exact h.bk
 ·exact h.bn
theorem GS.setD {L:Nat} {fE fD fK fN:Nat→D} {s:St} (h:GS L fE fD fK fN s) (g:Nat→D):GS L fE g fK fN (sset s 4 (.fix 0 (rg L g))):=by
 refine ⟨?_,?_,?_,?_,?_⟩ <;> rw [sget_sset] <;> simp only [Nat.reduceEqDiff,↓reduceIte]
 ·exact h.b0
 ·exact h.be
 ·exact h.bk
 ·exact h.bn
theorem GS.setK {L:Nat} {fE fD fK fN:Nat→D} {s:St} (h:GS L fE fD fK fN s) (g:Nat→D):GS L fE fD g fN (sset s 6 (.fix 0 (rg L g))):=by
 refine ⟨?_,?_,?_,?_,?_⟩ <;> rw [sget_sset] <;> simp only [Nat.reduceEqDiff,↓reduceIte]
 ·exact h.b0
 ·exact h.be
 ·exact h.bd
 ·exact h.bn
def lsB (l:List Nd) (q j:Nat):Bool:=match l[q]? with
 | some x=>decide (x.kind=3)&&decide (q<j∧j≤q+x.kids.toNat)
 | none=>false
def nbB (l:List Nd) (i j:Nat):Bool:=(List.range i).any fun q=>lsB l q j
theorem nbB_succ (l:List Nd) (i j:Nat):nbB l (i+1) j=(nbB l i j||lsB l i j):=by simp [nbB,List.range_succ]
def boolF (f:Nat→Bool):Nat→D:=fun j => .bool (f j)
theorem Y0_ok (n:Nat) {l:List Nd} {d:D} (hd:Sl 7 nodeC l d) (hg:GoodL l) (hl:l.length≤400) {fE fD fK:Nat→D} {t:Tm} {s:St} {c:Nat} (hS:GS l.length fE fD fK (boolF fun _=>false) s) (hc:11≤c) (hfr:∀ m,c≤m→sget s m=none)
  (q0:tget t 0=d) (q2:tget t 2 = .ptr 0 0) (q3:tget t 3 = .bool false) (q4:tget t 4 = .int .i64 (l.length:Nat)) :
  ∃ t' s' c',zC Y0 (cxn (n+1)) (fn (n+1) 4096) KK ⟨t,s,c,[],none⟩ = .ok .normal ⟨t',s',c',[],none⟩∧GS l.length fE fD fK (boolF (nbB l l.length)) s'∧11≤c'∧(∀ m,c'≤m→sget s' m=none)∧tget t' 0=d∧tget t' 2 = .ptr 0 0∧tget t' 3 = .bool false∧tget t' 4 = .int .i64 (l.length:Nat):=by
 simp only [Y0,Ab.abq]
 simp only [z2,seval,q0,hd.len]
 generalize hz:zloop KK _ _=rl
 refine zrange rl hz l.length (KK_lt (by omega)) (by omega) (fun i t s c=>GS l.length fE fD fK (boolF (nbB l i)) s∧11≤c∧(∀ m,c≤m→sget s m=none)∧tget t 0=d∧tget t 2 = .ptr 0 0∧tget t 3 = .bool false∧tget t 4 = .int .i64 (l.length:Nat)∧tget t 23=d) (by decide) (by simp [ex_val]) (by simp [ex_val])
  ⟨hS,hc,hfr,by simp [ex_val,q0],by simp [ex_val,q2],by simp [ex_val,q3],by simp [ex_val,q4],by simp [ex_val]⟩ ?_ ?_
 ·clear q0 q2 q3 q4 hc hfr hS hz
  rintro i t s c hi ⟨hS,hc,hfr,q0,q2,q3,q4,q23⟩ hti htn
  have hrow:takeAt (l.map nodeC).flatten (i*7) (some 7)=some (.agg [.int .i64 l[i].kind,.int .i64 l[i].prim,.int .i64 l[i].kids,.str l[i].name,.str l[i].text,.int .i64 l[i].n,.int .i64 l[i].site]):=hd.row hi
  by_cases h3:l[i].kind=3
  ·obtain ⟨k0,k4⟩:=(hg.nd i hi).k3 h3
   have hls:=hg.ls i hi h3
   have w0:wrapD .i64 ((i:Int)+1)=((i+1:Nat):Int):=inc_i64 (by omega)
   have wk:wrapD .i64 ((i:Int)+l[i].kids)=((i+l[i].kids.toNat:Nat):Int):=by rw [wrapD_i64 (by omega) (by omega)]; omega
   have hnb:nbB l (i+1)=fun q=>nbB l i q||decide (i<q∧q≤i+l[i].kids.toNat):=by
    funext j
    rw [nbB_succ,lsB,List.getElem?_eq_getElem hi]
    simp [h3]
   have hb0:(boolF fun q=>nbB l i q||decide (i<q∧q≤i+0))=boolF (nbB l i):=by
    unfold boolF; funext q
    simp only [show decide (i<q∧q≤i+0)=false from decide_eq_false (by omega),Bool.or_false]
   simp only [z2,seval,q0,q2,q3,q4,q23,hti,htn,hd.ia hi,hrow,decide_eq_true h3,w0]
   generalize hz:zloop KK _ _=rl
   refine zwhile rl hz l[i].kids.toNat (KK_lt (by omega)) (fun j z=>∃ t s c',z=⟨t,s,c',[],none⟩∧GS l.length fE fD fK (boolF fun q=>nbB l i q||decide (i<q∧q≤i+j)) s∧sget s c=some (.fix 50 [.int .i64 l[i].kind,.int .i64 l[i].prim,.int .i64 l[i].kids,.str l[i].name,.str l[i].text,.int .i64 l[i].n,.int .i64 l[i].site])∧c<c'∧(∀ m,c'≤m→sget s m=none)∧tget t 0=d∧tget t 2 = .ptr 0 0∧tget t 3 = .bool false∧tget t 4 = .int .i64 (l.length:Nat)∧tget t 23=d∧tget t 24 = .int .i64 (l.length:Nat)∧tget t 25 = .int .i64 (i:Nat)∧tget t 5 = .int .i64 (i:Nat)∧tget t 6 = .ptr c 0∧tget t 7 = .int .i64 ((i+1+j:Nat):Int))
    ⟨_,_,_,rfl,by rw [hb0]; exact hS.add fun m hm=>by simp only [ex_val]; rw [if_neg (by omega),if_neg (by omega)],by simp [ex_val],Nat.lt_succ_self c,fun m hm=>by simp only [ex_val]; rw [if_neg (by omega),if_neg (by omega)]; exact hfr m (by omega),by simp [ex_val,q0],by simp [ex_val,q2],by simp [ex_val,q3],by simp [ex_val,q4],by simp [ex_val,q23],by simp [ex_val,htn],by simp [ex_val,hti],by simp [ex_val],by simp [ex_val],by simp [ex_val]⟩ ?_
   clear q0 q2 q3 q4 q23 hti htn hS hfr hz
   rintro j z hj ⟨t,s,c',rfl,hS,hsc,hc',hfr,q0,q2,q3,q4,q23,q24,q25,q5,q6,q7⟩
   have hx0:=hS.b0
   have hx8:=hS.bn
   by_cases hjk:j<l[i].kids.toNat
   ·have hle:decide (((i+1+j:Nat):Int)≤((i+l[i].kids.toNat:Nat):Int))=true:=dT (by omega)
    have w1:wrapD .i64 (((i+1+j:Nat):Int)+1)=((i+1+(j+1):Nat):Int):=inc_i64 (by omega)
    simp only [z2,seval,q0,q2,q3,q4,q23,q24,q25,q5,q6,q7,hsc,hx0,hx8,wk,w1,hle,ia_ms (show i+1+j<l.length by omega),rg_len,show i+1+j+1≤l.length from by omega]
    have hnx:(rg l.length (boolF fun q=>nbB l i q||decide (i<q∧q≤i+j))).set (i+1+j) (.bool true)=rg l.length (boolF fun q=>nbB l i q||decide (i<q∧q≤i+(j+1))):=(rg_set _ _ _ _).trans (rg_congr fun q hq=>by
     unfold boolF
     by_cases e:q=i+1+j
     ·rw [if_pos e]; dsimp only; rw [show decide (i<q∧q≤i+(j+1))=true from decide_eq_true (by omega),Bool.or_true]
     ·rw [if_neg e]; dsimp only; rw [show decide (i<q∧q≤i+(j+1))=decide (i<q∧q≤i+j) from by rw [decide_eq_decide]; omega])
    rw [hnx]
    exact ⟨hjk,_,_,_,rfl,hS.setN _,by rw [sget_sset,if_neg (by omega)]; exact hsc,hc',fun m hm=>by rw [sget_sset,if_neg (by omega)]; exact hfr m hm,by simp [ex_val,q0],by simp [ex_val,q2],by simp [ex_val,q3],by simp [ex_val,q4],by simp [ex_val,q23],by simp [ex_val,q24],by simp [ex_val,q25],by simp [ex_val,q5],by simp [ex_val,q6],by simp [ex_val]⟩
   ·have hle:decide (((i+1+j:Nat):Int)≤((i+l[i].kids.toNat:Nat):Int))=false:=dF (by omega)
    have:j=l[i].kids.toNat:=by omega
    subst this
    simp only [z2,seval,q0,q2,q3,q4,q23,q24,q25,q5,q6,q7,hsc,hx0,hx8,wk,hle]
    rw [hnb]
    exact ⟨trivial,trivial,trivial,.inr (.inr trivial),by decide,by decide,hS,by omega,hfr,trivial,trivial,trivial,trivial,trivial⟩
  ·have hnb:nbB l (i+1)=nbB l i:=by
    funext j
    rw [nbB_succ,lsB,List.getElem?_eq_getElem hi]
    simp [h3]
   simp only [z2,seval,q0,q2,q3,q4,q23,hti,htn,hd.ia hi,hrow,decide_eq_false h3]
   rw [hnb]
   refine ⟨trivial,trivial,trivial,.inr (.inr trivial),by decide,by decide,hS.add fun m hm => ?_,by omega,fun m hm => ?_,trivial,trivial,trivial,trivial,trivial⟩
   ·rw [sget_sset,if_neg (by omega),sget_sadd,if_neg (by omega)]
   ·rw [if_neg (by omega),if_neg (by omega)]; exact hfr m (by omega)
 ·rintro t s c ⟨hS,hc,hfr,q0,q2,q3,q4,q23⟩ hti htn
  simp only [z2,seval]
  exact ⟨_,_,_,rfl,hS,hc,hfr,by simp [ex_val,q0],by simp [ex_val,q2],by simp [ex_val,q3],by simp [ex_val,q4]⟩
end
end Zv
namespace Zv
open Go
noncomputable section
theorem OwnG.cellsq {α:Type} {w:Nat} {e:α→List D} {B:Nat} {s:St} {q:D} {l:List α} (h:OwnG w e B s q l):q.cells?=some [q]:=by
 rcases h with ⟨rfl,rfl⟩|⟨m,_,rfl,_,rfl⟩|⟨m,ty,_,rfl,_,_⟩ <;> rfl
def eF (l:List Nd) (i j:Nat):D:=if i≤j then .int .i64 (gE l j:Nat) else .int .i64 0
def dFn (l:List Nd) (i j:Nat):D:=if i≤j then .int .i64 (gD l j:Nat) else .int .i64 0
def upF (f:Nat→D) (i:Nat) (v:D) (j:Nat):D:=if j=i then v else f j
theorem rg_upd (n i:Nat) (f:Nat→D) (v w:D):(rg n (upF f i v)).set i w=rg n (upF f i w):=
 (rg_set _ _ _ _).trans (rg_congr fun j _=>by unfold upF; split <;> rfl)
theorem app_at {B:Nat} {t:Tm} {s:St} {c nm C:Nat} {dd:List (D × List D)} {r:Option Nat} {q:D} {L:List Nat} {k ty ty':Nat} {b:D} {A:Option (D × AS)} (hA:appD ⟨t,sadd s nm (.fix ty' [b]),C,dd,r⟩ 1 8 ty q (.ms nm 0 1 1 1)=A) (hb:b = .int .i64 (k:Nat)) (hO:OwnG 1 natC B s q L) (hL:L.length<4294967295) (hc:B≤c) (hn:c≤nm) (hC:nm<C) (hfr:∀ m,c≤m→sget s m=none) :
  ∃ q' s' c',A=some (q',⟨t,s',c',dd,r⟩)∧OwnG 1 natC B s' q' (L++[k])∧C≤c'∧(∀ m,m<B→sget s' m=sget s m)∧∀ m,c'≤m→sget s' m=none:=by
 subst hb
 subst hA
 obtain ⟨q',s',c',h1,h2,h3,h4,h5⟩:=own_appG enc_nat (B:=B) (l:=L) (l':=[k]) (sz:=8) (ty:=ty) (by decide) (x:=⟨t,sadd s nm (.fix ty' [.int .i64 (k:Nat)]),C,dd,r⟩) (q:=q) (b := .ms nm 0 1 1 1) rfl
  (hO.keep fun m b _ hb=>by simp only [ex_val]; rw [if_neg (by intro e; rw [e,hfr _ hn] at hb; cases hb)]; exact hb) (by simp only [sliceCells,ex_val,↓reduceIte]; rfl) (by simp only [List.length_cons,List.length_nil]; omega) (by simp only; omega)
  (fun m hm=>by simp only at hm; simp only [ex_val]; rw [if_neg (by omega)]; exact hfr m (by omega))
 exact ⟨q',s',c',h1,h2,h3,fun m hm=>by rw [h4 m hm]; simp only [ex_val]; rw [if_neg (by omega)],h5⟩
theorem YB_ok (n:Nat) {l:List Nd} {d:D} (hl:l.length≤400) {i at_ cur c0:Nat} {fK fN:Nat→D} {q:D} {Kc:List Nat} {t:Tm} {s:St} {c:Nat}
  (hS:GS l.length (eF l (i+1)) (upF (dFn l (i+1)) i (.int .i64 (cur:Nat))) (upF fK i q) fN s) (hO:OwnG 1 natC c0 s q Kc) (h11:11≤c0) (hc0:c0≤c) (hfr:∀ m,c≤m→sget s m=none) (hi:i<at_) (hat:at_<l.length) (hK:Kc.length≤4) (hcur:cur≤1000)
  (q0:tget t 0=d) (q2:tget t 2 = .ptr 0 0) (q4:tget t 4 = .int .i64 (l.length:Nat)) (q8:tget t 8 = .int .i64 (i:Nat)) (q9:tget t 9 = .int .i64 (at_:Nat)) :
  ∃ t' s' c' q',zC YB (cxn (n+1)) (fn (n+1) 4096) KK ⟨t,s,c,[],none⟩ = .ok .normal ⟨t',s',c',[],none⟩∧GS l.length (eF l (i+1)) (upF (dFn l (i+1)) i (.int .i64 (max cur (gD l at_):Nat))) (upF fK i q') fN s'∧OwnG 1 natC c0 s' q' (Kc++[at_])∧c≤c'∧(∀ m,c'≤m→sget s' m=none)∧(∀ m,11≤m→m<c0→sget s' m=sget s m) ∧
   tget t' 9 = .int .i64 (gE l at_:Nat)∧∀ k,k=0∨k=2∨k=3∨k=4∨k=8∨k=82∨k=83→tget t' k=tget t k:=by
 simp only [YB,Ab.abq]
 have hge:decide ((l.length:Int)≤(at_:Nat))=false:=dF (by omega)
 have x0:=hS.b0
 have x2:=hS.be
 have x4:=hS.bd
 have x6:=hS.bk
 have hno:∀ m,c≤m→sget s m=none:=hfr
 have gK0:(rg l.length (upF fK i q))[i]?=some q:=by rw [rg_get (by omega)]; unfold upF; rw [if_pos rfl]
 simp only [z2,seval,q0,q2,q4,q8,q9,hge,nb,zipO,killT,AOp.kd,zop,tks,sameStep,sd_or,allocOf,x0,x2,x4,x6,ia_ms (show i<l.length by omega),ia_ms hat,gK0,hno (c+9) (by omega),Option.isNone_none]
 generalize hA:appD _ 1 8 4 _ _=A
 obtain ⟨q',s',c',rfl,hO',hc',hfs,hfr'⟩:=app_at (B:=c0) (k:=at_) hA rfl hO (by omega) hc0 (by omega) (by simp only [List.length_cons,List.length_nil]; omega) hfr
 clear hA
 simp only [List.length_cons,List.length_nil] at hc'
 have hS':GS l.length (eF l (i+1)) (upF (dFn l (i+1)) i (.int .i64 (cur:Nat))) (upF fK i q) fN s':=hS.add fun m hm=>hfs m (by omega)
 have y0:=hS'.b0
 have y2:=hS'.be
 have y4:=hS'.bd
 have y6:=hS'.bk
 have z4:(rg l.length (upF (dFn l (i+1)) i (.int .i64 (cur:Nat))))[i]?=some (.int .i64 (cur:Nat)):=by rw [rg_get (by omega)]; unfold upF; rw [if_pos rfl]
 have z4':(rg l.length (upF (dFn l (i+1)) i (.int .i64 (cur:Nat))))[at_]?=some (.int .i64 (gD l at_:Nat)):=by rw [rg_get hat]; unfold upF dFn; rw [if_neg (by omega),if_pos (by omega)]
 have zq2:(rg l.length (eF l (i+1)))[at_]?=some (.int .i64 (gE l at_:Nat)):=by rw [rg_get hat]; unfold eF; rw [if_pos (by omega)]
 simp only [z2,seval,q0,q2,q4,q8,q9,hge,nb,zipO,killT,AOp.kd,zop,tks,sameStep,sd_or,allocOf,x0,x2,x4,x6,y0,y2,y4,y6,ia_ms (show i<l.length by omega),ia_ms hat,gK0,hO'.cellsq,hO'.nag,rg_len,show i+1≤l.length from by omega,rg_upd,z4,z4',zq2,step_mm]
 have hmx:(if ((gD l at_:Nat):Int)>(cur:Nat) then ((gD l at_:Nat):Int) else (cur:Int))=((max cur (gD l at_):Nat):Int):=by split <;> omega
 rw [hmx]
 refine ⟨_,_,_,q',rfl,(hS'.setK _).setD _,hO'.keep fun m b hm hb => ?_,by omega,fun m hm => ?_,fun m h1 h2 => ?_,by simp [ex_val],?_⟩
 ·rw [sget_sset,if_neg (by omega),sget_sset,if_neg (by omega)]; exact hb
 ·rw [sget_sset,if_neg (by omega),sget_sset,if_neg (by omega)]; exact hfr' m (by simp only [List.length_cons,List.length_nil] at hm; omega)
 ·rw [sget_sset,if_neg (by omega),sget_sset,if_neg (by omega)]; exact hfs m h2
 ·rintro k (rfl|rfl|rfl|rfl|rfl|rfl|rfl) <;> simp [ex_val]
end
end Zv
namespace Zv
open Go
noncomputable section
theorem YB_no (n:Nat) {L at_:Nat} {t:Tm} {s:St} {c:Nat} (hL:L≤400) (hat:L≤at_) (q4:tget t 4 = .int .i64 (L:Nat)) (q9:tget t 9 = .int .i64 (at_:Nat)) :
  ∃ t',zC YB (cxn (n+1)) (fn (n+1) 4096) KK ⟨t,s,c,[],none⟩ = .ok (.exit 12) ⟨t',s,c,[],none⟩∧tget t' 3 = .bool true∧∀ k,k=0∨k=2∨k=4∨k=8∨k=9→tget t' k=tget t k:=by
 simp only [YB,Ab.abq]
 have hge:decide ((L:Int)≤(at_:Nat))=true:=dT (by omega)
 simp only [z2,seval,q4,q9,hge]
 refine ⟨_,rfl,by simp [ex_val],?_⟩
 rintro k (rfl|rfl|rfl|rfl|rfl) <;> simp [ex_val]
theorem YN_ok (n:Nat) {l:List Nd} {d:D} (hg:GoodL l) (hl:l.length≤400) {i c0:Nat} (hi:i<l.length) {fK fN:Nat→D} {t:Tm} {s:St} {c:Nat} {b0:Bool} {m:Nat} (hm:manyI l[i]=(m:Int)) (hm2:m=1∨m=2)
  (hS:GS l.length (eF l (i+1)) (upF (dFn l (i+1)) i (.int .i64 ((0:Nat):Int))) (upF fK i .nils) fN s) (h11:11≤c0) (hc0:c0≤c) (hfr:∀ m,c≤m→sget s m=none)
  (q0:tget t 0=d) (q2:tget t 2 = .ptr 0 0) (q3:tget t 3 = .bool b0) (q4:tget t 4 = .int .i64 (l.length:Nat)) (q8:tget t 8 = .int .i64 (i:Nat)) (q9:tget t 9 = .int .i64 ((i+1:Nat):Int)) (q82:tget t 82 = .int .i64 (m:Nat)) (q83:tget t 83 = .int .i64 0) :
  ∃ t' s' c' q' b,zblkR 12 (zC YN (cxn (n+1)) (fn (n+1) 4096) KK ⟨t,s,c,[],none⟩) = .ok .normal ⟨t',s',c',[],none⟩∧GS l.length (eF l (i+1)) (upF (dFn l (i+1)) i (.int .i64 ((gD l i-1:Nat):Int))) (upF fK i q') fN s'∧OwnG 1 natC c0 s' q' (gK l i)∧c≤c'∧(∀ m,c'≤m→sget s' m=none)∧(∀ m,11≤m→m<c0→sget s' m=sget s m) ∧
   tget t' 9 = .int .i64 (gE l i:Nat)∧tget t' 3 = .bool b∧∀ k,k=0∨k=2∨k=4∨k=8→tget t' k=tget t k:=by
 have n3:¬ l[i].kind=3:=by
  intro k; unfold manyI at hm; rw [if_neg (by omega)] at hm; omega
 have hE:=gE_eq hg hi
 rw [if_neg n3] at hE
 have hK:=gK_eq hi
 have hD:=gD_eq hi
 simp only [YN,Ab.abq]
 by_cases h1:i+1<l.length
 ·obtain ⟨t1,s1,c1,qq1,r1,hS1,hO1,hc1,hfr1,hs1,e9,hk1⟩:=YB_ok n hl (d:=d) (t:=tput t 84 (.bool true)) hS (.inl ⟨rfl,rfl⟩) h11 hc0 hfr (show i<i+1 by omega) h1 (by simp) (by decide) (by simp [ex_val,q0]) (by simp [ex_val,q2]) (by simp [ex_val,q4]) (by simp [ex_val,q8]) (by simp [ex_val,q9])
  have f0:tget t1 0=d:=by rw [hk1 0 (.inl rfl)]; simp [ex_val,q0]
  have f2:tget t1 2 = .ptr 0 0:=by rw [hk1 2 (by simp)]; simp [ex_val,q2]
  have f3:tget t1 3 = .bool b0:=by rw [hk1 3 (by simp)]; simp [ex_val,q3]
  have f4:tget t1 4 = .int .i64 (l.length:Nat):=by rw [hk1 4 (by simp)]; simp [ex_val,q4]
  have f8:tget t1 8 = .int .i64 (i:Nat):=by rw [hk1 8 (by simp)]; simp [ex_val,q8]
  have f82:tget t1 82 = .int .i64 (m:Nat):=by rw [hk1 82 (by simp)]; simp [ex_val,q82]
  have f83:tget t1 83 = .int .i64 0:=by rw [hk1 83 (by simp)]; simp [ex_val,q83]
  clear hk1
  rcases hm2 with rfl|rfl
  ·have hm':manyI l[i]=1:=hm
   rw [if_pos hm',if_pos h1] at hE hK
   rw [hK] at hD
   simp only [z2,seval,zun,q82,q83,r1,f82,f83,show ((1:Nat):Int)=1 from rfl,show wrapD .i64 1=1 from rfl,Int.reduceLT,Int.reduceAdd]
   refine ⟨_,_,_,qq1,b0,rfl,?_,by rw [hK]; exact hO1,hc1,hfr1,hs1,?_,?_,?_⟩
   ·rw [hD]; exact hS1
   ·simp [ex_val,e9,hE]
   ·simp [ex_val,f3]
   ·rintro k (rfl|rfl|rfl|rfl) <;> simp [ex_val,f0,f2,f4,f8,q0,q2,q4,q8]
  ·have hm':manyI l[i]=2:=hm
   rw [hm',if_neg (by decide),if_pos rfl,if_pos h1] at hE hK
   by_cases h2:gE l (i+1)<l.length
   ·rw [if_pos h2] at hE hK
    rw [hK] at hD
    have hle:=gD_le l.length (i+1) h1 (by omega)
    obtain ⟨t2,s2,c2,qq2,r2,hS2,hO2,hc2,hfr2,hs2,e92,hk2⟩:=YB_ok n hl (d:=d) (t:=tput (tput (tput t1 120 (.int .i64 1)) 83 (.int .i64 1)) 84 (.bool true)) hS1 hO1 h11 (by omega) hfr1 (by have:=gE_gt h1; omega) h2 (by simp) (by omega) (by simp [ex_val,f0]) (by simp [ex_val,f2]) (by simp [ex_val,f4]) (by simp [ex_val,f8]) (by simp [ex_val,e9])
    have k0:tget t2 0=d:=by rw [hk2 0 (.inl rfl)]; simp [ex_val,f0]
    have k2:tget t2 2 = .ptr 0 0:=by rw [hk2 2 (by simp)]; simp [ex_val,f2]
    have k3:tget t2 3 = .bool b0:=by rw [hk2 3 (by simp)]; simp [ex_val,f3]
    have k4:tget t2 4 = .int .i64 (l.length:Nat):=by rw [hk2 4 (by simp)]; simp [ex_val,f4]
    have k8:tget t2 8 = .int .i64 (i:Nat):=by rw [hk2 8 (by simp)]; simp [ex_val,f8]
    have k82:tget t2 82 = .int .i64 ((2:Nat):Int):=by rw [hk2 82 (by simp)]; simp [ex_val,f82]
    have k83:tget t2 83 = .int .i64 1:=by rw [hk2 83 (by simp)]; simp [ex_val]
    simp only [z2,seval,zun,q82,q83,r1,f82,f83,r2,k82,k83,show ((2:Nat):Int)=2 from rfl,show wrapD .i64 1=1 from rfl,show wrapD .i64 2=2 from rfl,Int.reduceLT,Int.reduceAdd]
    refine ⟨_,_,_,qq2,b0,rfl,?_,by rw [hK]; exact hO2,by omega,hfr2,fun m h1 h2=>(hs2 m h1 h2).trans (hs1 m h1 h2),?_,?_,?_⟩
    ·rw [hD]; exact hS2
    ·simp [ex_val,e92,hE]
    ·simp [ex_val,k3]
    ·rintro k (rfl|rfl|rfl|rfl) <;> simp [ex_val,k0,k2,k4,k8,q0,q2,q4,q8]
   ·rw [if_neg h2] at hE hK
    rw [hK] at hD
    obtain ⟨t2,r2,e3,hk2⟩:=YB_no n (t:=tput (tput (tput t1 120 (.int .i64 1)) 83 (.int .i64 1)) 84 (.bool true)) (s:=s1) (c:=c1) hl (at_:=gE l (i+1)) (by omega) (by simp [ex_val,f4]) (by simp [ex_val,e9])
    simp only [z2,seval,zun,q82,q83,r1,f82,f83,r2,show ((2:Nat):Int)=2 from rfl,show wrapD .i64 1=1 from rfl,show wrapD .i64 2=2 from rfl,Int.reduceLT,Int.reduceAdd]
    refine ⟨_,_,_,qq1,true,rfl,?_,by rw [hK]; exact hO1,by omega,hfr1,hs1,?_,e3,?_⟩
    ·rw [hD]; exact hS1
    ·rw [hk2 9 (by simp)]; simp [ex_val,e9,hE]
    ·rintro k (rfl|rfl|rfl|rfl)
     ·rw [hk2 0 (by simp)]; simp [ex_val,f0,q0]
     ·rw [hk2 2 (by simp)]; simp [ex_val,f2,q2]
     ·rw [hk2 4 (by simp)]; simp [ex_val,f4,q4]
     ·rw [hk2 8 (by simp)]; simp [ex_val,f8,q8]
 ·obtain ⟨t2,r2,e3,hk2⟩:=YB_no n (t:=tput t 84 (.bool true)) (s:=s) (c:=c) hl (at_:=i+1) (by omega) (by simp [ex_val,q4]) (by simp [ex_val,q9])
  have hE':gE l i=i+1:=by
   rw [hE]
   rcases hm2 with rfl|rfl
   ·rw [if_pos (show manyI l[i]=1 from hm),if_neg h1]
   ·rw [show manyI l[i]=2 from hm,if_neg (by decide),if_pos rfl,if_neg h1]
  have hK':gK l i=[]:=by
   rw [hK]
   rcases hm2 with rfl|rfl
   ·rw [if_pos (show manyI l[i]=1 from hm),if_neg h1]
   ·rw [show manyI l[i]=2 from hm,if_neg (by decide),if_pos rfl,if_neg h1]
  rw [hK'] at hD
  have hlt:decide ((0:Int)<(m:Nat))=true:=dT (by omega)
  simp only [z2,seval,zun,q82,q83,r2,hlt]
  refine ⟨_,_,_,.nils,true,rfl,?_,by rw [hK']; exact .inl ⟨rfl,rfl⟩,Nat.le_refl _,hfr,fun _ _ _=>rfl,?_,e3,?_⟩
  ·rw [hD]; exact hS
  ·rw [hk2 9 (by simp)]; simp [ex_val,q9,hE']
  ·rintro k (rfl|rfl|rfl|rfl)
   ·rw [hk2 0 (by simp)]; simp [ex_val]
   ·rw [hk2 2 (by simp)]; simp [ex_val]
   ·rw [hk2 4 (by simp)]; simp [ex_val]
   ·rw [hk2 8 (by simp)]; simp [ex_val]
end
end Zv
namespace Zv
open Go
noncomputable section
theorem OwnG.base {α:Type} {w:Nat} {e:α→List D} {B B':Nat} {s:St} {q:D} {l:List α} (h:OwnG w e B s q l) (hB:B'≤B):OwnG w e B' s q l:=by
 rcases h with h|⟨m,h1,h2⟩|⟨m,ty,h1,h2⟩
 ·exact .inl h
 ·exact .inr (.inl ⟨m,Nat.le_trans hB h1,h2⟩)
 ·exact .inr (.inr ⟨m,ty,Nat.le_trans hB h1,h2⟩)
theorem upF_same (f:Nat→D) (i:Nat) (v:D) (h:f i=v):upF f i v=f:=by
 funext j; unfold upF; split
 ·rename_i e; rw [e,h]
 ·rfl
theorem eF_up (l:List Nd) (i:Nat):upF (eF l (i+1)) i (.int .i64 (gE l i:Nat))=eF l i:=by
 funext j; unfold upF eF
 by_cases e:j=i
 ·subst e; rw [if_pos rfl,if_pos (Nat.le_refl _)]
 ·rw [if_neg e]
  by_cases h:i≤j
  ·rw [if_pos h,if_pos (by omega)]
  ·rw [if_neg h,if_neg (by omega)]
theorem dF_up (l:List Nd) (i:Nat):upF (dFn l (i+1)) i (.int .i64 (gD l i:Nat))=dFn l i:=by
 funext j; unfold upF dFn
 by_cases e:j=i
 ·subst e; rw [if_pos rfl,if_pos (Nat.le_refl _)]
 ·rw [if_neg e]
  by_cases h:i≤j
  ·rw [if_pos h,if_pos (by omega)]
  ·rw [if_neg h,if_neg (by omega)]
theorem isK_many {x:Nd} (h:GoodN x):isK x=decide (manyI x=1∨manyI x=2)∧(isK x=true→manyI x=x.kids):=by
 unfold isK manyI
 by_cases k:x.kind=5∨x.kind=6
 ·have:=h.kp k
  rw [if_pos k]
  refine ⟨?_,fun _=>rfl⟩
  rw [decide_eq_true this]
  rcases k with k|k <;> simp [k]
 ·rw [if_neg k]
  have k5:¬ x.kind=5:=fun e=>k (.inl e)
  have k6:¬ x.kind=6:=fun e=>k (.inr e)
  simp [k5,k6]
theorem YT_ok (n:Nat) {l:List Nd} (hl:l.length≤400) {i e0 cur:Nat} (hi:i<l.length) {fE fD fK fN:Nat→D} {t:Tm} {s:St} {c:Nat} (hS:GS l.length fE (upF fD i (.int .i64 (cur:Nat))) fK fN s) (hcur:cur≤1000)
  (q2:tget t 2 = .ptr 0 0) (q8:tget t 8 = .int .i64 (i:Nat)) (q9:tget t 9 = .int .i64 (e0:Nat)) :
  ∃ t',zC YT (cxn (n+1)) (fn (n+1) 4096) KK ⟨t,s,c,[],none⟩ = .ok .normal ⟨t',sset (sset s 2 (.fix 0 (rg l.length (upF fE i (.int .i64 (e0:Nat)))))) 4 (.fix 0 (rg l.length (upF fD i (.int .i64 ((cur+1:Nat):Int))))),c,[],none⟩∧∀ k,k=0∨k=2∨k=3∨k=4∨k=8→tget t' k=tget t k:=by
 simp only [YT,Ab.abq]
 have x0:=hS.b0
 have x2:=hS.be
 have x4:=hS.bd
 have z4:(rg l.length (upF fD i (.int .i64 (cur:Nat))))[i]?=some (.int .i64 (cur:Nat)):=by rw [rg_get (by omega)]; unfold upF; rw [if_pos rfl]
 have w:wrapD .i64 ((cur:Int)+1)=((cur+1:Nat):Int):=inc_i64 (by omega)
 have hst:∀ v,(rg l.length fE).set i v=rg l.length (upF fE i v):=fun v=>rg_set _ _ _ _
 simp only [z2,seval,q2,q8,q9,x0,x2,x4,ia_ms hi,z4,w,hst,rg_upd,rg_len,show i+1≤l.length from hi]
 refine ⟨_,rfl,?_⟩
 rintro k (rfl|rfl|rfl|rfl|rfl) <;> simp [ex_val]
theorem YI_ok (n:Nat) {l:List Nd} {d:D} (hd:Sl 7 nodeC l d) (hg:GoodL l) (hl:l.length≤400) {i:Nat} (hi:i<l.length) {fK fN:Nat→D} {t:Tm} {s:St} {c:Nat} {b0:Bool}
  (hS:GS l.length (eF l (i+1)) (dFn l (i+1)) fK fN s) (hK:fK i = .nils) (hc:11≤c) (hfr:∀ m,c≤m→sget s m=none)
  (q0:tget t 0=d) (q2:tget t 2 = .ptr 0 0) (q3:tget t 3 = .bool b0) (q4:tget t 4 = .int .i64 (l.length:Nat)) (q8:tget t 8 = .int .i64 (i:Nat)) :
  ∃ t' s' c' q' b,zC YI (cxn (n+1)) (fn (n+1) 4096) KK ⟨t,s,c,[],none⟩ = .ok .normal ⟨t',s',c',[],none⟩∧GS l.length (eF l i) (dFn l i) (upF fK i q') fN s'∧OwnG 1 natC 11 s' q' (gK l i)∧c≤c'∧(∀ m,c'≤m→sget s' m=none)∧(∀ m,11≤m→m<c→sget s' m=sget s m) ∧
   tget t' 3 = .bool b∧∀ k,k=0∨k=2∨k=4∨k=8→tget t' k=tget t k:=by
 simp only [YI,Ab.abq]
 have w0:wrapD .i64 ((i:Int)+1)=((i+1:Nat):Int):=inc_i64 (by omega)
 have g0:=hd.cell hi (show 0<7 by omega)
 have g2:=hd.cell hi (show 2<7 by omega)
 have zq0:(nodeC l[i])[0]?=some (.int .i64 l[i].kind):=rfl
 have zq2:(nodeC l[i])[2]?=some (.int .i64 l[i].kids):=rfl
 rw [zq0] at g0
 rw [zq2] at g2
 have hrow:=hd.row hi
 have h123:=c123 n l[i]
 have hfz:∀ st x,frz false 20 st (.agg (nodeC x))=some (.agg (nodeC x)):=fun _ _=>rfl
 have hmf:∀ st,[D.agg (nodeC l[i])].mapM (frz false 20 st)=some [D.agg (nodeC l[i])]:=fun _=>rfl
 have hl7:(nodeC (restX l[i])).length=7:=rfl
 have hna:(nodeC (restX l[i])).any isAg=false:=rfl
 have hset:setAt [.int .i64 0,.int .i64 0,.int .i64 0,.str [],.str [],.int .i64 0,.int .i64 0] 0 (nodeC (restX l[i]))=nodeC (restX l[i]):=rfl
 obtain ⟨hi1,hi2⟩:=isK_many (hg.nd i hi)
 have hS0:GS l.length (eF l (i+1)) (upF (dFn l (i+1)) i (.int .i64 ((0:Nat):Int))) (upF fK i .nils) fN s:=by
  rw [upF_same _ _ _ (by unfold dFn; rw [if_neg (by omega)]; rfl),upF_same _ _ _ hK]; exact hS
 have hgd:=gD_le l.length i hi (by omega)
 have hgp:1≤gD l i:=by rw [gD_eq hi]; omega
 have fin:∀ (t1:Tm) (s1:St) (c1:Nat) (q':D) (b:Bool),GS l.length (eF l (i+1)) (upF (dFn l (i+1)) i (.int .i64 ((gD l i-1:Nat):Int))) (upF fK i q') fN s1→OwnG 1 natC 11 s1 q' (gK l i)→c≤c1→(∀ m,c1≤m→sget s1 m=none)→(∀ m,11≤m→m<c→sget s1 m=sget s m) →
   tget t1 9 = .int .i64 (gE l i:Nat)→tget t1 3 = .bool b→(∀ k,k=0∨k=2∨k=4∨k=8→tget t1 k=tget t k) →
   ∃ t' s' c' q' b,zblkR 10 (zC YT (cxn (n+1)) (fn (n+1) 4096) KK ⟨t1,s1,c1,[],none⟩) = .ok .normal ⟨t',s',c',[],none⟩∧GS l.length (eF l i) (dFn l i) (upF fK i q') fN s'∧OwnG 1 natC 11 s' q' (gK l i)∧c≤c'∧(∀ m,c'≤m→sget s' m=none)∧(∀ m,11≤m→m<c→sget s' m=sget s m) ∧
    tget t' 3 = .bool b∧∀ k,k=0∨k=2∨k=4∨k=8→tget t' k=tget t k:=by
  intro t1 s1 c1 q' b h1 h2 h4 h5 h6 h7 h8 h9
  obtain ⟨t2,r2,hk⟩:=YT_ok n (c:=c1) hl hi h1 (by omega) ((h9 2 (by simp)).trans q2) ((h9 8 (by simp)).trans q8) h7
  rw [show gD l i-1+1=gD l i by omega,eF_up,dF_up] at r2
  rw [r2]
  refine ⟨t2,_,c1,q',b,rfl,(h1.setE _).setD _,h2.keep fun m b hm hb => ?_,h4,fun m hm => ?_,fun m ha hb => ?_,(hk 3 (by simp)).trans h8,?_⟩
  ·rw [sget_sset,if_neg (by omega),sget_sset,if_neg (by omega)]; exact hb
  ·rw [sget_sset,if_neg (by omega),sget_sset,if_neg (by omega)]; exact h5 m hm
  ·rw [sget_sset,if_neg (by omega),sget_sset,if_neg (by omega)]; exact h6 m ha hb
  ·rintro k (rfl|rfl|rfl|rfl)
   ·rw [hk 0 (by simp),h9 0 (by simp)]
   ·rw [hk 2 (by simp),h9 2 (by simp)]
   ·rw [hk 4 (by simp),h9 4 (by simp)]
   ·rw [hk 8 (by simp),h9 8 (by simp)]
 have hK0:isK l[i]=false→gK l i=[]:=fun hk=>by
  have:¬ (manyI l[i]=1∨manyI l[i]=2):=by rw [←decide_eq_false_iff_not,←hi1]; exact hk
  rw [gK_eq hi,if_neg (fun e=>this (.inl e)),if_neg (fun e=>this (.inr e))]
 have hfr1:∀ (x y:Blk) (m:Nat),c+1≤m→sget (sset (sadd s c x) c y) m=none:=fun x y m hm=>by rw [sget_sset,if_neg (by omega),sget_sadd,if_neg (by omega)]; exact hfr m (by omega)
 have hsm:∀ (x y:Blk) (m:Nat),m<c→sget (sset (sadd s c x) c y) m=sget s m:=fun x y m hm=>by rw [sget_sset,if_neg (by omega),sget_sadd,if_neg (by omega)]
 by_cases h3:l[i].kind=3
 ·obtain ⟨k0,k4⟩:=(hg.nd i hi).k3 h3
  have hE:=gE_eq hg hi
  rw [if_pos h3] at hE
  have wk:wrapD .i64 (((i+1:Nat):Int)+l[i].kids)=((i+1+l[i].kids.toNat:Nat):Int):=by rw [wrapD_i64 (by omega) (by omega)]; omega
  have hk:isK l[i]=false:=by unfold isK; rw [h3]; rfl
  have hK':=hK0 hk
  have hD:=gD_eq hi
  rw [hK'] at hD
  rw [hk] at h123
  simp only [z2,seval,q0,q2,q3,q4,q8,w0,hd.ia hi,g0,g2,decide_eq_true h3,wk,hrow,hmf,fn_pure (f:=99) rfl,ex_call,h123,hl7,hna,hset,Option.map_some]
  refine fin _ _ _ .nils b0 ?_ (by rw [hK']; exact .inl ⟨rfl,rfl⟩) (by omega) (hfr1 _ _) (fun m _ hm=>hsm _ _ m hm) (by simp [ex_val,hE]) (by simp [ex_val,q3]) ?_
  ·rw [hD]; exact hS0.add fun m hm=>hsm _ _ m (by omega)
  ·rintro k (rfl|rfl|rfl|rfl) <;> simp [ex_val]
 ·have hE:=gE_eq hg hi
  rw [if_neg h3] at hE
  cases hk:isK l[i]
  ·have hK':=hK0 hk
   have hD:=gD_eq hi
   rw [hK'] at hD
   rw [hk] at h123
   have:¬ (manyI l[i]=1∨manyI l[i]=2):=by rw [←decide_eq_false_iff_not,←hi1]; exact hk
   rw [if_neg (fun e=>this (.inl e)),if_neg (fun e=>this (.inr e))] at hE
   simp only [z2,seval,q0,q2,q3,q4,q8,w0,hd.ia hi,g0,g2,decide_eq_false h3,hrow,hmf,fn_pure (f:=99) rfl,ex_call,h123,hl7,hna,hset,Option.map_some]
   refine fin _ _ _ .nils b0 ?_ (by rw [hK']; exact .inl ⟨rfl,rfl⟩) (by omega) (hfr1 _ _) (fun m _ hm=>hsm _ _ m hm) (by simp [ex_val,hE]) (by simp [ex_val,q3]) ?_
   ·rw [hD]; exact hS0.add fun m hm=>hsm _ _ m (by omega)
   ·rintro k (rfl|rfl|rfl|rfl) <;> simp [ex_val]
  ·have hm:manyI l[i]=1∨manyI l[i]=2:=of_decide_eq_true (hi1.symm.trans hk)
   obtain ⟨m,hmm,hm2⟩:∃ m:Nat,manyI l[i]=(m:Int)∧(m=1∨m=2):=by
    rcases hm with h|h
    ·exact ⟨1,h,.inl rfl⟩
    ·exact ⟨2,h,.inr rfl⟩
   have hkm:l[i].kids=(m:Int):=(hi2 hk).symm.trans hmm
   rw [hkm] at g2
   rw [hk] at h123
   simp only [z2,seval,q0,q2,q3,q4,q8,w0,hd.ia hi,g0,g2,decide_eq_false h3,hrow,hmf,fn_pure (f:=99) rfl,ex_call,h123,hl7,hna,hset,Option.map_some]
   generalize hT:tput (tput _ 82 _) 83 _=T
   obtain ⟨t1,s1,c1,q',b,r1,k1,k2,k3,k4,k5,k6,k7,k8⟩:=YN_ok n (d:=d) hg hl hi (t:=T) (c:=c+1) (c0:=c+1) (b0:=b0) (m:=m) hmm hm2 (hS0.add fun m hm=>hsm (.fix 50 [.int .i64 0,.int .i64 0,.int .i64 0,.str [],.str [],.int .i64 0,.int .i64 0]) (.fix 50 (nodeC (restX l[i]))) m (by omega)) (by omega) (Nat.le_refl _) (hfr1 _ _)
    (by rw [←hT]; simp [ex_val,q0]) (by rw [←hT]; simp [ex_val,q2]) (by rw [←hT]; simp [ex_val,q3]) (by rw [←hT]; simp [ex_val,q4]) (by rw [←hT]; simp [ex_val,q8]) (by rw [←hT]; simp [ex_val]) (by rw [←hT]; simp [ex_val]) (by rw [←hT]; simp [ex_val])
   rw [r1]
   refine fin t1 s1 c1 q' b k1 (k2.base (by omega)) (by omega) k4 (fun m h1 h2=>(k5 m h1 (by omega)).trans (hsm _ _ m h2)) k6 k7 ?_
   rintro k (rfl|rfl|rfl|rfl)
   ·rw [k8 0 (by simp),←hT]; simp [ex_val]
   ·rw [k8 2 (by simp),←hT]; simp [ex_val]
   ·rw [k8 4 (by simp),←hT]; simp [ex_val]
   ·rw [k8 8 (by simp),←hT]; simp [ex_val]
end
end Zv
namespace Zv
open Go
noncomputable section
theorem Y1_ok (n:Nat) {l:List Nd} {d:D} (hd:Sl 7 nodeC l d) (hg:GoodL l) (hl:l.length≤400) {fN:Nat→D} {t:Tm} {s:St} {c:Nat}
  (hS:GS l.length (eF l l.length) (dFn l l.length) (fun _ => .nils) fN s) (hc:11≤c) (hfr:∀ m,c≤m→sget s m=none)
  (q0:tget t 0=d) (q2:tget t 2 = .ptr 0 0) (q3:tget t 3 = .bool false) (q4:tget t 4 = .int .i64 (l.length:Nat)) :
  ∃ t' s' c' fK b,zC Y1 (cxn (n+1)) (fn (n+1) 4096) KK ⟨t,s,c,[],none⟩ = .ok .ret ⟨t',s',c',[],none⟩∧GS l.length (eF l 0) (dFn l 0) fK fN s'∧(∀ j,j<l.length→OwnG 1 natC 11 s' (fK j) (gK l j))∧tget t' 2 = .ptr 0 0∧tget t' 3 = .bool b:=by
 simp only [Y1,Ab.abq]
 have w0:wrapD .i64 ((l.length:Int)-1)=(l.length:Int)-1:=wrapD_i64 (by omega) (by omega)
 simp only [z2,↓reduceIte,Nat.reduceEqDiff,Nat.reduceAdd,Nat.reduceLeDiff,reduceCtorEq,q4,w0]
 generalize hz:zloop KK _ _=rl
 refine zwhile rl hz l.length (KK_lt (by omega)) (fun r z=>∃ t s c fK b,z=⟨t,s,c,[],none⟩∧GS l.length (eF l (l.length-r)) (dFn l (l.length-r)) fK fN s∧(∀ j,j<l.length-r→fK j = .nils)∧(∀ j,l.length-r≤j→j<l.length→OwnG 1 natC 11 s (fK j) (gK l j))∧11≤c∧(∀ m,c≤m→sget s m=none)∧tget t 0=d∧tget t 2 = .ptr 0 0∧tget t 3 = .bool b∧tget t 4 = .int .i64 (l.length:Nat)∧tget t 8 = .int .i64 ((l.length:Int)-1-r))
  ⟨_,_,_,_,_,rfl,hS,fun _ _=>rfl,fun j h1 h2=>by omega,hc,hfr,by simp [ex_val,q0],by simp [ex_val,q2],by simp [ex_val,q3]; rfl,by simp [ex_val,q4],by simp [ex_val]⟩ ?_
 clear q0 q2 q3 q4 hS hc hfr hz
 rintro r z hr ⟨t,s,c,fK,b,rfl,hS,hnil,hown,hc,hfr,q0,q2,q3,q4,q8⟩
 by_cases hlt:r<l.length
 ·obtain ⟨i,hi⟩:∃ i,i=l.length-1-r:=⟨_,rfl⟩
  have e8:(l.length:Int)-1-r=(i:Nat):=by omega
  have e1:l.length-r=i+1:=by omega
  have hge:decide ((0:Int)≤(i:Nat))=true:=dT (by omega)
  rw [e1] at hS hnil hown
  rw [e8] at q8
  obtain ⟨t1,s1,c1,q',b1,r1,hS1,hO1,hc1,hfr1,hsm,k3,hk⟩:=YI_ok n (d:=d) hd hg hl (i:=i) (by omega) (t:=tput (tput t 50 (.int .i64 (i:Nat))) 51 (.bool true)) (b0:=b) hS (hnil i (Nat.lt_succ_self i)) hc hfr (by simp [ex_val,q0]) (by simp [ex_val,q2]) (by simp [ex_val,q3]) (by simp [ex_val,q4]) (by simp [ex_val,q8])
  have k0:tget t1 0=d:=by rw [hk 0 (by simp)]; simp [ex_val,q0]
  have k2:tget t1 2 = .ptr 0 0:=by rw [hk 2 (by simp)]; simp [ex_val,q2]
  have k4:tget t1 4 = .int .i64 (l.length:Nat):=by rw [hk 4 (by simp)]; simp [ex_val,q4]
  have k8:tget t1 8 = .int .i64 (i:Nat):=by rw [hk 8 (by simp)]; simp [ex_val,q8]
  have w1:wrapD .i64 ((i:Int)-1)=(l.length:Int)-1-((r+1:Nat):Int):=by rw [wrapD_i64 (by omega) (by omega)]; omega
  simp only [z2,↓reduceIte,Nat.reduceEqDiff,Nat.reduceAdd,Nat.reduceLeDiff,reduceCtorEq,q8,hge,r1,k8,w1]
  refine ⟨hlt,_,_,_,upF fK i q',b1,rfl,?_,fun j hj => ?_,fun j h1 h2 => ?_,by omega,hfr1,by simp [ex_val,k0],by simp [ex_val,k2],by simp [ex_val,k3],by simp [ex_val,k4],by simp [ex_val]⟩
  ·rw [show l.length-(r+1)=i by omega]; exact hS1
  ·unfold upF; rw [if_neg (by omega)]; exact hnil j (by omega)
  ·unfold upF
   by_cases e:j=i
   ·rw [if_pos e,e]; exact hO1
   ·rw [if_neg e]
    refine (hown j (by omega) h2).keep fun m b hm hb => ?_
    rw [hsm m hm (Nat.lt_of_not_le fun h=>by rw [hfr m h] at hb; cases hb)]; exact hb
 ·have e:r=l.length:=by omega
  subst e
  rw [Nat.sub_self] at hS hown
  have hge:decide ((0:Int)≤(l.length:Int)-1-(l.length:Int))=false:=dF (by omega)
  have x0:=hS.b0
  have htk:takeAt [.ms 2 0 1 l.length l.length,.ms 4 0 1 l.length l.length,.ms 6 0 1 l.length l.length,.ms 8 0 1 l.length l.length] 0 (some 4)=some (.agg [.ms 2 0 1 l.length l.length,.ms 4 0 1 l.length l.length,.ms 6 0 1 l.length l.length,.ms 8 0 1 l.length l.length]):=rfl
  simp only [Y2,Ab.abq]
  simp only [z2,↓reduceIte,Nat.reduceEqDiff,Nat.reduceAdd,Nat.reduceLeDiff,reduceCtorEq,q2,q3,q8,hge,x0,htk]
  refine ⟨_,_,_,fK,b,rfl,?_,fun j hj=>(hown j (Nat.zero_le _) hj).keep fun m b hm hb => ?_,by simp [ex_val,q2],by simp [ex_val]⟩
  ·exact ⟨by rw [sget_sset,if_pos rfl],by rw [sget_sset,if_neg (by decide)]; exact hS.be,by rw [sget_sset,if_neg (by decide)]; exact hS.bd,by rw [sget_sset,if_neg (by decide)]; exact hS.bk,by rw [sget_sset,if_neg (by decide)]; exact hS.bn⟩
  ·rw [sget_sset,if_neg (by omega)]; exact hb
theorem mapM_rg {g:D→Option D} {f h:Nat→D} (n:Nat) (hg:∀ j,j<n→g (f j)=some (h j)):(rg n f).mapM g=some (rg n h):=by
 induction n with
 | zero=>rfl
 | succ n ih=>
  have e:∀ f:Nat→D,rg (n+1) f=rg n f++[f n]:=fun f=>by unfold rg; rw [List.range_succ,List.map_append]; rfl
  rw [e,e,List.mapM_append,ih fun j hj=>hg j (by omega)]
  simp [hg n (Nat.lt_succ_self n)]
theorem frz_rg {p:Bool} {k L m:Nat} {s:St} {f h:Nat→D} (hs:sget s m=some (.fix 0 (rg L f))) (hg:∀ j,j<L→frz p k s (f j)=some (h j)):frz p (k+1) s (.ms m 0 1 L L)=some (.sl true L (rg L h)):=by
 rw [frz_ms,hs]
 simp only [Nat.zero_add,Nat.mul_one,rg_len,List.drop_zero,Nat.beq_refl]
 rw [Nat.ble_eq_true_of_le (Nat.le_refl _),cond_true,List.take_of_length_le (by rw [rg_len]; exact Nat.le_refl _),mapM_rg L hg]; rfl
theorem c122 (n:Nat) {l:List Nd} {d:D} (hd:Sl 7 nodeC l d) (hg:GoodL l) (hl:l.length≤400):∃ (fR:Nat→D) (b:Bool),cl (n+1) 98 [d]=some (.tup [.agg [.sl true l.length (rg l.length (eF l 0)),.sl true l.length (rg l.length (dFn l 0)),.sl true l.length (rg l.length fR),.sl true l.length (rg l.length (boolF (nbB l l.length)))],.bool b],true)∧∀ j,j<l.length→Sl 1 natC (gK l j) (fR j):=by
 rw [cl_run (A:=A98) rfl (n+1) _ rfl,show A98.body=B98 from rfl,B122_eq]
 have hc:∀ b:Nat,b≤24→(0≤(l.length:Int)∧(l.length:Int)≤l.length∧(b:Int)*(l.length:Int)≤1099511627776∧(l.length:Int)≤4294967296):=fun b h2=>by
  have:(b:Int)*(l.length:Int)≤24*400:=Int.mul_le_mul (by omega) (by omega) (by omega) (by omega)
  exact ⟨by omega,by omega,by omega,by omega⟩
 have htk:∀ a b c d:D,[a,b,c,d].any isAg=false→takeAt [a,b,c,d] 0 (some 4)=some (.agg [a,b,c,d]):=fun a b c d h=>rfl
 simp only [z2,↓reduceIte,Nat.reduceEqDiff,Nat.reduceAdd,Nat.reduceLeDiff,reduceCtorEq,hd.len,zipO,killT,AOp.kd,zop,tks,sameStep,sd_or,allocOf,eq_true (hc 8 (by decide)),eq_true (hc 24 (by decide)),eq_true (hc 1 (by decide)),rep_rg,Int.toNat_natCast,sget_st0,Option.isNone_none]
 simp only [List.length_cons,List.length_nil,Nat.reduceAdd]
 generalize hT:tput (tput _ 21 _) 22 _=T
 generalize hS:sset _ 0 _=S
 obtain ⟨t1,s1,c1,r1,hS1,hc1,hfr1,k0,k2,k3,k4⟩:=Y0_ok n hd hg hl (t:=T) (s:=S) (c:=11) (fE:=eF l l.length) (fD:=dFn l l.length) (fK:=fun _ => .nils)
  (by
   rw [←hS]
   have z:∀ (f:Nat→D),(∀ j,j<l.length→f j = .int .i64 0)→rg l.length (fun _ => .int .i64 0)=rg l.length f:=fun f h=>rg_congr fun j hj=>(h j hj).symm
   have zE:=z (eF l l.length) fun j hj=>if_neg (by omega)
   have zD:=z (dFn l l.length) fun j hj=>if_neg (by omega)
   exact ⟨by simp [ex_val],by simp [ex_val,zE],by simp [ex_val,zD],by simp [ex_val],by simp [ex_val]; rfl⟩)
  (by decide) (fun m hm=>by rw [←hS]; simp only [ex_val,sget_st0]; rw [if_neg (by omega),if_neg (by omega),if_neg (by omega),if_neg (by omega),if_neg (by omega),if_neg (by omega)])
  (by rw [←hT]; simp [ex_val]) (by rw [←hT]; simp [ex_val]) (by rw [←hT]; simp [ex_val]) (by rw [←hT]; simp [ex_val])
 obtain ⟨t2,s2,c2,fK,b,r2,hS2,hO,j2,j3⟩:=Y1_ok n hd hg hl hS1 hc1 hfr1 k0 k2 k3 k4
 have hr:∀ j,∃ r,j<l.length→(∀ k,frz true (k+2) s2 (fK j)=some r)∧Sl 1 natC (gK l j) r:=fun j=>by
  by_cases hj:j<l.length
  ·obtain ⟨r,h1,h2⟩:=(hO j hj).fz enc_nat true
   exact ⟨r,fun _=>⟨h1,h2⟩⟩
  ·exact ⟨.nils,fun h=>absurd h hj⟩
 refine ⟨fun j=>Classical.choose (hr j),b,?_,fun j hj=>(Classical.choose_spec (hr j) hj).2⟩
 have x0:=hS2.b0
 have htk4:takeAt [.ms 2 0 1 l.length l.length,.ms 4 0 1 l.length l.length,.ms 6 0 1 l.length l.length,.ms 8 0 1 l.length l.length] 0 (some 4)=some (.agg [.ms 2 0 1 l.length l.length,.ms 4 0 1 l.length l.length,.ms 6 0 1 l.length l.length,.ms 8 0 1 l.length l.length]):=rfl
 have e1:frz true 18 s2 (.ms 2 0 1 l.length l.length)=some (.sl true l.length (rg l.length (eF l 0))):=frz_rg hS2.be fun j _=>by unfold eF; split <;> rfl
 have e2:frz true 18 s2 (.ms 4 0 1 l.length l.length)=some (.sl true l.length (rg l.length (dFn l 0))):=frz_rg hS2.bd fun j _=>by unfold dFn; split <;> rfl
 have e3:frz true 18 s2 (.ms 6 0 1 l.length l.length)=some (.sl true l.length (rg l.length fun j=>Classical.choose (hr j))):=frz_rg hS2.bk fun j hj=>(Classical.choose_spec (hr j) hj).1 15
 have e4:frz true 18 s2 (.ms 8 0 1 l.length l.length)=some (.sl true l.length (rg l.length (boolF (nbB l l.length)))):=frz_rg hS2.bn fun j _=>rfl
 rw [r1]
 simp only [z2,↓reduceIte,Nat.reduceEqDiff,Nat.reduceAdd,Nat.reduceLeDiff,reduceCtorEq,r2,j2,j3,x0,htk4,A98]
 have frz_agg:∀ (k:Nat) (cs:List D),frz true (k+1) s2 (.agg cs)=(cs.mapM (frz true k s2)).map .agg:=fun _ _=>rfl
 have frz_tup:∀ (k:Nat) (cs:List D),frz true (k+1) s2 (.tup cs)=(cs.mapM (frz true k s2)).map .tup:=fun _ _=>rfl
 have frz_bool:∀ (k:Nat) (b:Bool),frz true (k+1) s2 (.bool b)=some (.bool b):=fun _ _=>rfl
 unfold pout
 simp only [frz_tup 19,frz_agg 18,frz_bool 18,List.mapM_cons,List.mapM_nil,e1,e2,e3,e4,Option.pure_def,Option.bind_eq_bind,Option.bind_some,Option.map_some]
end
end Zv
namespace Zv
open Go
noncomputable section
def itE (l:List Nd):Nat→Nat→Nat
 | 0,a=>a
 | k+1,a=>itE l k (eN l a)
theorem itE_add (l:List Nd) (k:Nat):∀ m a,itE l (m+k) a=itE l k (itE l m a)
 | 0,a=>by rw [Nat.zero_add]; rfl
 | m+1,a=>by rw [Nat.add_right_comm,itE,itE]; exact itE_add l k m _
theorem itE_out (l:List Nd):∀ k a,l.length≤a→itE l (k+1) a=l.length+1
 | 0,a,h=>by rw [itE,itE,eN_ge h]
 | k+1,a,h=>by rw [itE,eN_ge h]; exact itE_out l k _ (Nat.le_succ _)
def opN (x:Nd):Nat:=(manyI x).toNat
def nxN (l:List Nd) (i:Nat):Nat:=match l[i]? with
 | some x=>if x.kind=3 then i+1+x.kids.toNat else i+1
 | none=>i+1
theorem op_step {l:List Nd} (hg:GoodL l) {i k:Nat} (h:i<l.length):itE l (k+1) i=itE l (opN l[i]+k) (nxN l i):=by
 rw [itE,itE_add,eN_eq h]
 unfold nxN opN
 rw [List.getElem?_eq_getElem h]
 simp only
 by_cases k3:l[i].kind=3
 ·have hm:manyI l[i]=0:=by unfold manyI; rw [if_neg (by omega)]
  rw [if_pos k3,if_pos k3,hm]; rfl
 ·rw [if_neg k3,if_neg k3]
  rcases many_cases (hg.nd i h) with hm|hm|hm <;> rw [hm]
  ·rfl
  ·rfl
  ·rw [if_neg (by decide),if_pos rfl]
   show itE l k _=itE l k (eN l (eN l (i+1)))
   split
   ·rfl
   ·have:=eN_le hg (i+1)
    rw [eN_ge (i:=eN l (i+1)) (by omega),show eN l (i+1)=l.length+1 by omega]
theorem nx_le {l:List Nd} (hg:GoodL l) {i:Nat} (h:i<l.length):i<nxN l i∧nxN l i≤l.length:=by
 unfold nxN
 rw [List.getElem?_eq_getElem h]
 simp only
 split
 ·rename_i k3
  have:=hg.ls i h k3
  omega
 ·omega
theorem nx_eq {l:List Nd} {i:Nat} (h:i<l.length):nxN l i=if l[i].kind=3 then i+1+l[i].kids.toNat else i+1:=by
 unfold nxN
 rw [List.getElem?_eq_getElem h]
end
end Zv
