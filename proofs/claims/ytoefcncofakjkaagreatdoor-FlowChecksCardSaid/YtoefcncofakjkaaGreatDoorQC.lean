/- What functions come to: expressions by the program, from the tree on. Conditions: none. -/
import Derived.Test.YtoefcncofakjkaaGreatDoorCA
import Derived.Test.YtoefcncofakjkaaGreatDoorQB
import Derived.Test.YtoefcncofakjkaaGreatDoorQA
import Derived.Test.YtoefcncofakjkaaGreatDoorPD
import Derived.Test.YtoefcncofakjkaaGreatDoorPA
import Derived.Test.YtoefcncofakjkaaGreatDoorME
set_option linter.unusedVariables false
set_option linter.unusedSimpArgs false
set_option maxRecDepth 100000
namespace Zv
open Go Ab
noncomputable section
def W79:AC:=(s (.block 14 (s (r [m 120 10,d 121 .gtr 120 (i 0),m 119 121]) (.cond (.t 119) (s (r [u 122 (.bld [.nils,.nils,.nils,.nils] []),m 123 0,u 124 (.len false (.t 123)),w (.st 4 (.t 2) (.t 122)),m 3 124,c 4 (i 6)]) .ret) (s (r [m 126 11,m 127 0,u 128 (.len false (.t 127)),b 129 .lss 126 128,m 125 129]) (.cond (.t 125) (s (r [u 130 (.bld [.nils,.nils,.nils,.nils] []),m 131 11,w (.st 4 (.t 2) (.t 130)),m 3 131,c 4 (i 6)]) .ret) (s (r [f 133 1 2,l 134 133,u 135 (.iaS 1 (.t 134) (.c (i 0))),l 136 135,d 137 .gtr 136 (i 24),m 132 137]) (.cond (.t 132) (s (r [u 138 (.bld [.nils,.nils,.nils,.nils] []),w (.st 4 (.t 2) (.t 138)),c 3 (i 0),c 4 (i 3)]) .ret) .skip))))))) (s (r [u 139 (.ld (some 4) (.t 2)),w (.st 4 (.t 2) (.t 139)),c 3 (i 0),c 4 (i 0)]) .ret))
def T79:AC:=(s (r [m 74 0,u 75 (.call 98 [(.t 74)]),m 73 75,e 76 0 73,e 77 1 73,w (.st 4 (.t 2) (.t 76))]) (s (r [c 10 (i 1)]) (s (r [c 11 (i 0)]) (s (.block 10 (.loop (s (s (r [m 78 10,d 79 .gtr 78 (i 0),m 80 79,my 81 11 80,my 82 0 80,y 83 80 (.len false (.t 82)),y 84 80 (.bin .lss (.t 81) (.t 83)),u 85 (.pick (.t 80) (.t 84) (.c (.bool false)))]) (.cond (.t 85) .skip (.exit 10))) (.block 12 (s (r [m 86 10,d 87 .sub 86 (i 1),m 10 87]) (s (s (r [m 89 0,m 90 11,u 91 (.iaS 7 (.t 89) (.t 90)),u 92 (.ld (some 7) (.t 91)),u 93 (.call 99 [(.t 92)]),m 88 93,e 94 0 88,e 95 1 88,u 12 (.new 50 (.c (.agg [(i 0),(i 0),(i 0),(.str []),(.str []),(i 0),(i 0)]))),w (.st 7 (.t 12) (.t 94)),m 13 95]) (s (r [m 96 13]) (.cond (.t 96) (r [m 97 10,m 98 0,m 99 11,u 100 (.iaS 7 (.t 98) (.t 99)),f 101 2 100,l 102 101,b 103 .add 97 102,m 10 103]) .skip))) (s (s (r [m 104 0,m 105 11,u 106 (.iaS 7 (.t 104) (.t 105)),f 107 0 106,l 108 107,d 109 .eql 108 (i 3)]) (.cond (.t 109) (r [m 110 11,m 111 0,m 112 11,u 113 (.iaS 7 (.t 111) (.t 112)),f 114 2 113,l 115 114,b 116 .add 110 115,m 11 116]) .skip)) (r [m 117 11,d 118 .add 117 (i 1),m 11 118])))))))) W79))))
def U79:AC:=(s (s (r [m 39 0,u 40 (.len false (.t 39)),c 41 (i 0)]) (.block 6 (.loop (s (r [b 42 .lss 41 40]) (s (.cond (.t 42) .skip (.exit 6)) (s (.block 8 (s (r [m 43 41,u 44 (.iaS 7 (.t 39) (.t 41)),u 45 (.ld (some 7) (.t 44)),u 9 (.new 50 (.c (.agg [(i 0),(i 0),(i 0),(.str []),(.str []),(i 0),(i 0)]))),m 8 43,w (.st 7 (.t 9) (.t 45))]) (s (r [f 46 0 9,l 47 46,d 48 .eql 47 (i 3),m 49 48,my 50 8 49,y 51 49 (.fa 2 (.t 9)),y 52 49 (.ld none (.t 51)),y 53 49 (.bin .add (.t 50) (.t 52)),my 54 0 49,y 55 49 (.len false (.t 54)),y 56 49 (.bin .geq (.t 53) (.t 55)),my 57 56 49,mn 58 0 57,mn 59 8 57,n 60 57 (.bin .add (.t 59) (.c (i 1))),mn 61 8 57,n 62 57 (.bin .add (.t 61) (.c (i 1))),n 63 57 (.fa 2 (.t 9)),n 64 57 (.ld none (.t 63)),n 65 57 (.bin .add (.t 62) (.t 64)),n 66 57 (.slV 7 (.t 58) (some (.t 60)) (some (.t 65)) none),n 67 57 (.call 96 [(.t 66),(.f 97)]),y 68 49 (.pick (.t 57) (.c (.bool true)) (.t 67)),u 69 (.pick (.t 49) (.t 68) (.c (.bool false)))]) (.cond (.t 69) (s (r [u 70 (.bld [.nils,.nils,.nils,.nils] []),m 71 8,w (.st 4 (.t 2) (.t 70)),m 3 71,c 4 (i 6)]) .ret) .skip)))) (r [d 72 .add 41 (i 1),m 41 72]))))))) T79)
theorem B79_eq:B60=(s (r [u 2 (.new 165 (.c (.agg [.nils,.nils,.nils,.nils]))),c 3 (i 0),c 4 (i 0)]) (s (.block 0 (s (r [m 15 0,u 16 (.len false (.t 15)),d 17 .eql 16 (i 0),m 14 17]) (.cond (.t 14) (s (r [u 18 (.bld [.nils,.nils,.nils,.nils] []),w (.st 4 (.t 2) (.t 18)),c 3 (i 0),c 4 (i 6)]) .ret) (s (r [m 20 0,u 21 (.len false (.t 20)),d 22 .gtr 21 (i 400),m 19 22]) (.cond (.t 19) (s (r [u 23 (.bld [.nils,.nils,.nils,.nils] []),w (.st 4 (.t 2) (.t 23)),c 3 (i 0),c 4 (i 3)]) .ret) .skip))))) (s (s (r [m 24 0,u 25 (.len false (.t 24)),c 26 (i 0)]) (.block 2 (.loop (s (r [b 27 .lss 26 25]) (s (.cond (.t 27) .skip (.exit 2)) (s (.block 4 (s (r [m 28 26,u 29 (.iaS 7 (.t 24) (.t 26)),u 30 (.ld (some 7) (.t 29)),u 6 (.new 50 (.c (.agg [(i 0),(i 0),(i 0),(.str []),(.str []),(i 0),(i 0)]))),m 5 28,w (.st 7 (.t 6) (.t 30))]) (s (r [u 31 (.ld (some 7) (.t 6)),u 32 (.call 95 [(.t 31)]),m 7 32]) (s (r [m 33 7,d 34 .neq 33 (i 0)]) (.cond (.t 34) (s (r [u 35 (.bld [.nils,.nils,.nils,.nils] []),m 36 5,m 37 7,w (.st 4 (.t 2) (.t 35)),m 3 36,m 4 37]) .ret) .skip))))) (r [d 38 .add 26 (i 1),m 26 38]))))))) U79))):=rfl
def TreeOk (l:List Nd) (T:D):Prop:=∃ fR:Nat→D,T = .agg [.sl true l.length (rg l.length (eF l 0)),.sl true l.length (rg l.length (dFn l 0)),.sl true l.length (rg l.length fR),.sl true l.length (rg l.length (boolF (nbB l l.length)))]∧∀ j,j<l.length→Sl 1 natC (gK l j) (fR j)
def Out79 (n:Nat) (l:List Nd) (r:R) (q:D):Prop:=∃ T x y f,q=e2 x y∧pout (zbody (dfn n MM) A60 r)=some (.tup [T,.int .i64 x,.int .i64 y],f)∧(y=0→TreeOk l T)
theorem W79_ok (n:Nat) {l:List Nd} {d:D} (hd:Sl 7 nodeC l d) (hg:GoodL l) (h1:0<l.length) (h4:l.length≤400) {t:Tm} {s:St} {c:Nat} {T:D} {cs:List D} (hT:T = .agg cs) (hok:TreeOk l T) {op ap:Nat} (s0:sget s 0=some (.fix 165 cs)) (q0:tget t 0=d) (q2:tget t 2 = .ptr 0 0) (q10:tget t 10 = .int .i64 (op:Nat)) (q11:tget t 11 = .int .i64 (ap:Nat))
  (h:(0<op∧ap=l.length∧eN l 0=l.length+1)∨(op=0∧eN l 0=ap∧ap≤l.length)):Out79 n l (zC W79 (cxn n) (fn n 4096) KK ⟨t,s,c,[],none⟩) (tailD l):=by
 obtain ⟨fR,hR,hK⟩:=hok
 subst hT
 cases hR
 simp only [W79,Ab.abq]
 rcases h with ⟨o1,rfl,o3⟩|⟨rfl,rfl,o3⟩
 ·have k0:decide ((0:Int)<(op:Nat))=true:=dT (by omega)
  simp only [z2,seval,q0,q2,q10,q11,hd.len,s0,k0,nb]
  refine ⟨.agg [.nils,.nils,.nils,.nils],l.length,6,true,by rw [tailD,if_pos (by omega)],?_,fun h=>absurd h (by decide)⟩
  simp only [z2,seval,A60,q2]
  rfl
 ·have k0:decide ((0:Int)<((0:Nat):Int))=false:=rfl
  by_cases t2:eN l 0<l.length
  ·have k1:decide (((eN l 0:Nat):Int)<l.length)=true:=dT (by omega)
   simp only [z2,seval,q0,q2,q10,q11,hd.len,s0,k0,k1,nb]
   refine ⟨.agg [.nils,.nils,.nils,.nils],eN l 0,6,true,by rw [tailD,if_neg (by omega),if_pos t2],?_,fun h=>absurd h (by decide)⟩
   simp only [z2,seval,A60,q2]
   rfl
  ·have k1:decide (((eN l 0:Nat):Int)<l.length)=false:=dF (by omega)
   have ia:∀ cs:List D,iaSD 1 (.sl true l.length cs) (.int .i64 0)=some (.iptr cs 0):=fun cs=>by simp only [iaSD,idxD_0 h1,Option.map_some]
   have g0:(rg l.length (dFn l 0))[0]?=some (.int .i64 (gD l 0:Nat)):=by rw [rg_get h1]; unfold dFn; rw [if_pos (Nat.zero_le _)]
   have hD:=gD_dN hg l.length 0 h1 (by omega) (by omega)
   by_cases t3:24<dN l 0
   ·have k2:decide ((24:Int)<(gD l 0:Nat))=true:=dT (by omega)
    simp only [z2,seval,q0,q2,q10,q11,hd.len,s0,k0,k1,ia,g0,k2,nb]
    refine ⟨.agg [.nils,.nils,.nils,.nils],0,3,true,by rw [tailD,if_neg (by omega),if_neg t2,if_pos t3],?_,fun h=>absurd h (by decide)⟩
    simp only [z2,seval,A60,q2]
    rfl
   ·have hns:∀ e n cs,isAg (.sl e n cs)=false:=fun _ _ _=>rfl
    have k2:decide ((24:Int)<(gD l 0:Nat))=false:=dF (by omega)
    have htk:∀ a b c d:D,takeAt [a,b,c,d] 0 (some 4)=some (.agg [a,b,c,d]):=fun _ _ _ _=>rfl
    simp only [z2,seval,q0,q2,q10,q11,hd.len,s0,k0,k1,ia,g0,k2,htk,hns,nb]
    refine ⟨_,0,0,false,by rw [tailD,if_neg (by omega),if_neg t2,if_neg t3],?_,fun _=>⟨fR,rfl,hK⟩⟩
    simp only [z2,seval,A60,q2,htk,hns]
    rfl
theorem T79_ok (n:Nat) {l:List Nd} {d:D} (hd:Sl 7 nodeC l d) (hg:GoodL l) (h1:0<l.length) (h4:l.length≤400) {t:Tm} {s:St} {c:Nat} (hc:1≤c) (s0:sget s 0=some (.fix 165 [.nils,.nils,.nils,.nils])) (q0:tget t 0=d) (q2:tget t 2 = .ptr 0 0) :
  Out79 (n+10) l (zC T79 (cxn (n+10)) (fn (n+10) 4096) KK ⟨t,s,c,[],none⟩) (tailD l):=by
 obtain ⟨fR,b,h122,hK⟩:=c122 (n+8) hd hg h4
 have hok:TreeOk l (.agg [.sl true l.length (rg l.length (eF l 0)),.sl true l.length (rg l.length (dFn l 0)),.sl true l.length (rg l.length fR),.sl true l.length (rg l.length (boolF (nbB l l.length)))]):=⟨fR,rfl,hK⟩
 simp only [T79,Ab.abq]
 have htk:∀ a b c d:D,takeAt [a,b,c,d] 0 (some 4)=some (.agg [a,b,c,d]):=fun _ _ _ _=>rfl
 have hns:∀ e n cs,isAg (.sl e n cs)=false:=fun _ _ _=>rfl
 simp only [z2,seval,q0,q2,s0,fn_pure (f:=98) rfl,ex_call,hd.fz,h122,hd.pure,htk,hns]
 generalize hz:zloop KK _ _=rl
 refine zwhile rl hz l.length (KK_lt (by omega)) (fun r z=>∃ t s c op ap,z=⟨t,s,c,[],none⟩∧r≤ap∧ap≤l.length∧op≤r+1∧itE l op ap=eN l 0∧1≤c∧sget s 0=some (.fix 165 [.sl true l.length (rg l.length (eF l 0)),.sl true l.length (rg l.length (dFn l 0)),.sl true l.length (rg l.length fR),.sl true l.length (rg l.length (boolF (nbB l l.length)))]) ∧
  tget t 0=d∧tget t 2 = .ptr 0 0∧tget t 10 = .int .i64 (op:Nat)∧tget t 11 = .int .i64 (ap:Nat)) ⟨_,_,_,1,0,rfl,Nat.le_refl _,Nat.zero_le _,Nat.le_refl _,rfl,hc,by simp [ex_val],by simp [ex_val,q0],by simp [ex_val,q2],by simp [ex_val],by simp [ex_val]⟩ ?_
 clear q0 q2 s0 hz
 rintro r z hr ⟨t,s,c,op,ap,rfl,h5,h6,h7,h8,hc,s0,q0,q2,q10,q11⟩
 by_cases ho:op=0
 ·subst ho
  have k0:decide ((0:Int)<((0:Nat):Int))=false:=rfl
  simp only [z2,seval,q0,q2,q10,q11,k0]
  exact W79_ok (op:=0) (ap:=ap) (n+10) hd hg h1 h4 rfl hok s0 (by simp [ex_val,q0]) (by simp [ex_val,q2]) (by simp [ex_val,q10]) (by simp [ex_val,q11]) (.inr ⟨rfl,h8.symm,h6⟩)
 have k0:decide ((0:Int)<(op:Nat))=true:=dT (by omega)
 by_cases ha:ap=l.length
 ·subst ha
  have k1:decide ((l.length:Int)<l.length)=false:=dF (by omega)
  simp only [z2,seval,q0,q2,q10,q11,k0,k1,hd.len]
  obtain ⟨o,rfl⟩:∃ o,op=o+1:=⟨op-1,by omega⟩
  exact W79_ok (op:=o+1) (ap:=l.length) (n+10) hd hg h1 h4 rfl hok s0 (by simp [ex_val,q0]) (by simp [ex_val,q2]) (by simp [ex_val,q10]) (by simp [ex_val,q11]) (.inl ⟨by omega,rfl,by rw [←h8]; exact itE_out l o _ (Nat.le_refl _)⟩)
 have hlt:ap<l.length:=by omega
 have hrow:=hd.row hlt
 have g0:=hd.cell hlt (show 0<7 by omega)
 have g2:=hd.cell hlt (show 2<7 by omega)
 have h123:=c123 (n+9) l[ap]
 obtain ⟨o,rfl⟩:∃ o,op=o+1:=⟨op-1,by omega⟩
 have hst:=op_step hg hlt (k:=o)
 rw [h8] at hst
 have hnx:=nx_le hg hlt
 have hnd:=hg.nd ap hlt
 have w1:wrapD .i64 (((o+1:Nat):Int)-1)=(o:Nat):=by rw [wrapD_i64 (by omega) (by omega)]; omega
 have f0:(0=c)=False:=eq_false (by omega)
 have wa:∀ a:Nat,a≤1000→wrapD .i64 ((a:Int)+1)=((a+1:Nat):Int):=fun a h=>inc_i64 (by omega)
 have hfz:∀ st x,frz false 20 st (.agg (nodeC x))=some (.agg (nodeC x)):=fun _ _=>rfl
 have hnag:∀ x,(nodeC x).any isAg=false∧(nodeC x).length=7:=fun _=>⟨rfl,rfl⟩
 have hsa:∀ x y,setAt (nodeC x) 0 (nodeC y)=nodeC y:=fun _ _=>rfl
 have hs0:∀ y,setAt [D.int .i64 0,.int .i64 0,.int .i64 0,.str [],.str [],.int .i64 0,.int .i64 0] 0 (nodeC y)=nodeC y:=fun _=>rfl
 have hrx:(nodeC (restX l[ap])).any isAg=false:=rfl
 have hro:(nodeC (restX l[ap])).length=7:=rfl
 have lk:l[ap].kind=5∨l[ap].kind=6→l[ap].kids=((opN l[ap]:Nat):Int)∧isK l[ap]=true:=fun k=>by
  have:=hnd.kp k
  unfold opN manyI isK
  rw [if_pos k]
  refine ⟨by omega,?_⟩
  rcases k with k|k <;> simp [k]
 have go:∀ (t':Tm) (s':St) (c':Nat),1≤c'→sget s' 0=sget s 0→tget t' 0=d→tget t' 2 = .ptr 0 0→tget t' 10 = .int .i64 ((opN l[ap]+o:Nat):Int)→tget t' 11 = .int .i64 ((nxN l ap:Nat):Int) →
   r<l.length∧∃ t s c op ap,(⟨t',s',c',[],none⟩:AS)=⟨t,s,c,[],none⟩∧r+1≤ap∧ap≤l.length∧op≤r+1+1∧itE l op ap=eN l 0∧1≤c∧sget s 0=some (.fix 165 [.sl true l.length (rg l.length (eF l 0)),.sl true l.length (rg l.length (dFn l 0)),.sl true l.length (rg l.length fR),.sl true l.length (rg l.length (boolF (nbB l l.length)))]) ∧
  tget t 0=d∧tget t 2 = .ptr 0 0∧tget t 10 = .int .i64 (op:Nat)∧tget t 11 = .int .i64 (ap:Nat):=fun t' s' c' e1 e2 e3 e4 e5 e6=>
  ⟨by omega,t',s',c',_,_,rfl,by omega,hnx.2,by
   have:opN l[ap]≤2:=by rcases many_cases hnd with h|h|h <;> rw [opN,h] <;> decide
   omega,hst.symm,e1,by rw [e2]; exact s0,e3,e4,e5,e6⟩
 simp only [nodeC] at h123
 by_cases k56:l[ap].kind=5∨l[ap].kind=6
 ·obtain ⟨e1,e2⟩:=lk k56
  have k3:decide (l[ap].kind=3)=false:=dF (by omega)
  have w2:wrapD .i64 ((o:Int)+l[ap].kids)=((opN l[ap]+o:Nat):Int):=by
   have:=hnd.kp k56
   rw [wrapD_i64 (by omega) (by omega),e1]; omega
  have e3:nxN l ap=ap+1:=by rw [nx_eq hlt,if_neg (by omega)]
  rw [e2] at h123
  rw [e3] at go
  simp only [z2,seval,q0,q2,q10,q11,k0,lt_dec hlt,hd.len,hd.ia hlt,hrow,g0,g2,nodeC,hfz,fn_pure (f:=99) rfl,ex_call,h123,w1,w2,wa ap (by omega),f0,k3,nb]
  refine go _ _ _ (by omega) (by simp [ex_val,f0]) (by simp [ex_val,q0]) (by simp [ex_val,q2]) (by simp [ex_val]) (by simp [ex_val])
 ·have e2:isK l[ap]=false:=by
   unfold isK
   rw [decide_eq_false (by omega),decide_eq_false (by omega)]; rfl
  have e1:opN l[ap]=0:=by unfold opN manyI; rw [if_neg k56]; rfl
  rw [e2] at h123
  rw [e1,Nat.zero_add] at go
  by_cases k3:l[ap].kind=3
  ·obtain ⟨kk,hk⟩:∃ kk:Nat,l[ap].kids=kk:=⟨l[ap].kids.toNat,by have:=(hnd.k3 k3).1; omega⟩
   have e3:nxN l ap=ap+kk+1:=by rw [nx_eq hlt,if_pos k3,hk,Int.toNat_natCast]; omega
   have w2:wrapD .i64 ((ap:Int)+l[ap].kids)=((ap+kk:Nat):Int):=by
    have:=(hnd.k3 k3).2
    rw [wrapD_i64 (by omega) (by omega),hk]; omega
   have:=(hnd.k3 k3).2
   rw [e3] at go
   simp only [z2,seval,q0,q2,q10,q11,k0,lt_dec hlt,hd.len,hd.ia hlt,hrow,g0,g2,nodeC,hfz,fn_pure (f:=99) rfl,ex_call,h123,w1,w2,wa (ap+kk) (by omega),f0,decide_eq_true k3,nb]
   refine go _ _ _ (by omega) (by simp [ex_val,f0]) (by simp [ex_val,q0]) (by simp [ex_val,q2]) (by simp [ex_val]) (by simp [ex_val])
  ·have e3:nxN l ap=ap+1:=by rw [nx_eq hlt,if_neg k3]
   rw [e3] at go
   simp only [z2,seval,q0,q2,q10,q11,k0,lt_dec hlt,hd.len,hd.ia hlt,hrow,g0,g2,nodeC,hfz,fn_pure (f:=99) rfl,ex_call,h123,w1,wa ap (by omega),f0,decide_eq_false k3,nb]
   refine go _ _ _ (by omega) (by simp [ex_val,f0]) (by simp [ex_val,q0]) (by simp [ex_val,q2]) (by simp [ex_val]) (by simp [ex_val])
end
end Zv
namespace Zv
open Go
noncomputable section
theorem part_listed {l:List Nd} {i k:Nat} (h:i+1+k≤l.length):allN ((l.take (i+1+k)).drop (i+1)).length (numB ((l.take (i+1+k)).drop (i+1)))=listedB l i k:=by
 have hlen:((l.take (i+1+k)).drop (i+1)).length=k:=by rw [List.length_drop,List.length_take]; omega
 rw [hlen,listedB,Bool.eq_iff_iff,allN_iff,allN_iff]
 have e:∀ j,j<k→numB ((l.take (i+1+k)).drop (i+1)) j=numB l (i+1+j):=fun j hj=>by
  unfold numB
  rw [List.getElem?_drop,List.getElem?_take,if_pos (by omega)]
 exact ⟨fun h j hj=>by rw [←e j hj]; exact h j hj,fun h j hj=>by rw [e j hj]; exact h j hj⟩
theorem U79_ok (n:Nat) {l:List Nd} {d:D} (hd:Sl 7 nodeC l d) (hw:∀ j,j<l.length→wrongP l j=none) (h1:0<l.length) (h4:l.length≤400) {t:Tm} {s:St} {c:Nat} (hc:1≤c) (s0:sget s 0=some (.fix 165 [.nils,.nils,.nils,.nils])) (q0:tget t 0=d) (q2:tget t 2 = .ptr 0 0) :
  Out79 (n+10) l (zC U79 (cxn (n+10)) (fn (n+10) 4096) KK ⟨t,s,c,[],none⟩) (scan (listP l) (tailD l) l.length 0):=by
 simp only [U79,Ab.abq]
 simp only [z2,seval,q0,hd.len]
 generalize hz:zloop KK _ _=rl
 refine zrange rl hz l.length (KK_lt (by omega)) (by omega) (fun i t s c=>tget t 0=d∧tget t 39=d∧tget t 2 = .ptr 0 0∧sget s 0=some (.fix 165 [.nils,.nils,.nils,.nils])∧1≤c∧∀ j,j<i→listP l j=none) (by decide) (by simp [ex_val]) (by simp [ex_val]) ⟨by simp [ex_val,q0],by simp [ex_val],by simp [ex_val,q2],s0,hc,nofun⟩ ?_ ?_
 ·rintro i t s c hlt ⟨q0,q39,q2,s0,hc,hn⟩ hti htn
  have hrow:=hd.row hlt
  have hgl:l[i]?=some l[i]:=List.getElem?_eq_getElem hlt
  have f0:(0=c)=False:=eq_false (by omega)
  have hgd:GoodN l[i]:=good_of (by
   have:=hw i hlt
   unfold wrongP at this
   rw [hgl] at this
   simp only at this
   split at this
   ·assumption
   ·cases this)
  by_cases k3:l[i].kind=3
  ·have ⟨k0,k4⟩:=hgd.k3 k3
   obtain ⟨kk,hk⟩:∃ kk:Nat,l[i].kids=kk:=⟨l[i].kids.toNat,by omega⟩
   have w0:wrapD .i64 ((i:Int)+(kk:Nat))=((i+kk:Nat):Int):=by rw [wrapD_i64 (by omega) (by omega)]; omega
   have w1:wrapD .i64 ((i:Int)+1)=((i+1:Nat):Int):=inc_i64 (by omega)
   have w2:wrapD .i64 (((i+1:Nat):Int)+(kk:Nat))=((i+1+kk:Nat):Int):=by rw [wrapD_i64 (by omega) (by omega)]; omega
   by_cases hge:l.length≤i+kk
   ·have hL:listedB l i l[i].kids.toNat=false:=by
     rw [hk,Int.toNat_natCast]
     cases kk with
     | zero=>omega
     | succ m=>
      cases hb:listedB l i (m+1)
      ·rfl
      ·have:=allN_iff.1 hb m (by omega)
       rw [numB_ge (by omega)] at this
       cases this
    have hp:listP l i=some (e2 i 6):=by rw [listP,hgl]; exact if_pos ⟨k3,hL⟩
    have kg:decide ((l.length:Int)≤((i+kk:Nat):Int))=true:=dT (by omega)
    simp only [z2,seval,q0,q39,q2,hti,htn,hd.ia hlt,hrow,nodeC,f0,s0,hk,decide_eq_true k3,w0,kg,hd.len,nb]
    refine ⟨.agg [.nils,.nils,.nils,.nils],i,6,true,scan_at hlt hp hn,?_,fun h=>absurd h (by decide)⟩
    simp only [z2,seval,A60,q2]
    rfl
   ·have kg:decide ((l.length:Int)≤((i+kk:Nat):Int))=false:=dF (by omega)
    obtain ⟨d',e1,hd'⟩:=hd.part (i:=i+1) (j:=i+1+kk) (by omega) (by omega) (k := .i64) (k' := .i64)
    have hpl:=part_listed (l:=l) (i:=i) (k:=kk) (by omega)
    have H:=fun st c=>f120 (n+10) 4092 hd' (by rw [List.length_drop,List.length_take]; omega) (st:=st) (c:=c)
    rw [hpl] at H
    obtain ⟨FS,FC,hF⟩:∃ (FS:St→Nat→St) (FC:St→Nat→Nat),∀ st c,fn (n+10) 4096 (.fn 96) [d',.fn (.func 97) [] []] st c = .ok (.ret (.bool !(listedB l i kk))) (FS st c) (FC st c)∧c≤FC st c∧∀ x,x<c→sget (FS st c) x=sget st x:=
     ⟨fun st c=>Classical.choose (H st c),fun st c=>Classical.choose (Classical.choose_spec (H st c)),fun st c=>by have:=Classical.choose_spec (Classical.choose_spec (H st c)); exact ⟨this.1,this.2.1,this.2.2.1⟩⟩
    have h120:=fun st c=>(hF st c).1
    have hs0:∀ b b',sget (FS (sset (sadd s c b) c b') (c+1)) 0=some (.fix 165 [.nils,.nils,.nils,.nils]):=fun b b'=>by rw [(hF _ _).2.2 0 (by omega)]; simp only [ex_val]; rw [if_neg (by omega),if_neg (by omega)]; exact s0
    cases hb:listedB l i kk
    ·have hp:listP l i=some (e2 i 6):=by rw [listP,hgl]; exact if_pos ⟨k3,by rw [hk,Int.toNat_natCast]; exact hb⟩
     rw [hb] at h120
     simp only [z2,seval,q0,q39,q2,hti,htn,hd.ia hlt,hrow,nodeC,f0,s0,hs0,hk,decide_eq_true k3,w0,w1,w2,kg,hd.len,e1,h120,nb]
     refine ⟨.agg [.nils,.nils,.nils,.nils],i,6,true,scan_at hlt hp hn,?_,fun h=>absurd h (by decide)⟩
     simp only [z2,seval,A60,q2,hs0]
     rfl
    ·have hp:listP l i=none:=by rw [listP,hgl]; exact if_neg (by rw [hk,Int.toNat_natCast,hb]; simp)
     rw [hb] at h120
     simp only [z2,seval,q0,q39,q2,hti,htn,hd.ia hlt,hrow,nodeC,f0,s0,hs0,hk,decide_eq_true k3,w0,w1,w2,kg,hd.len,e1,h120,nb]
     exact ⟨trivial,trivial,trivial,.inr (.inr trivial),nofun,nofun,trivial,trivial,trivial,trivial,Nat.le_trans (show 1≤c+1 by omega) (hF _ _).2.1,none_step hn hp⟩
  ·have hp:listP l i=none:=by rw [listP,hgl]; exact if_neg (fun h=>k3 h.1)
   simp only [z2,seval,q0,q39,q2,hti,htn,hd.ia hlt,hrow,nodeC,f0,s0,decide_eq_false k3,nb]
   exact ⟨trivial,trivial,trivial,.inr (.inr trivial),nofun,nofun,trivial,trivial,trivial,trivial,by first|trivial|omega,none_step hn hp⟩
 ·rintro t s c ⟨q0,q39,q2,s0,hc,hn⟩ hti htn
  have hg:=goodL_of hw hn
  rw [scan_end hn]
  simp only [ex_code,↓reduceIte]
  exact T79_ok n hd hg h1 h4 hc s0 (by simp [ex_val,q0]) (by simp [ex_val,q2])
theorem c79 (n:Nat) {l:List Nd} {d:D} (hd:Sl 7 nodeC l d) (hl:l.length<4294967296) (hok:l.length≤400→NdOk l):∃ T x y f,exD l=e2 x y∧cl (n+10) 60 [d]=some (.tup [T,.int .i64 x,.int .i64 y],f)∧(y=0→TreeOk l T):=by
 rw [cl_run (A:=A60) rfl (n+10) _ rfl,show A60.body=B60 from rfl,B79_eq]
 by_cases h0:l.length=0
 ·have hc:decide ((l.length:Int)=0)=true:=dT (by omega)
  simp only [z2,seval,hd.len,hc,nb,A60]
  exact ⟨.agg [.nils,.nils,.nils,.nils],0,6,true,by rw [exD,if_pos h0],rfl,fun h=>absurd h (by decide)⟩
 have hc0:decide ((l.length:Int)=0)=false:=dF (by omega)
 by_cases h4:400<l.length
 ·have hc:decide ((400:Int)<l.length)=true:=dT (by omega)
  simp only [z2,seval,hd.len,hc0,hc,nb,A60]
  exact ⟨.agg [.nils,.nils,.nils,.nils],0,3,true,by rw [exD,if_neg h0,if_pos h4],rfl,fun h=>absurd h (by decide)⟩
 have hc4:decide ((400:Int)<l.length)=false:=dF (by omega)
 rw [show exD l=scan (wrongP l) (scan (listP l) (tailD l) l.length 0) l.length 0 from by rw [exD,if_neg h0,if_neg h4]]
 show Out79 (n+10) l _ _
 simp only [z2,seval,hd.len,hc0,hc4,nb]
 generalize hz:zloop KK _ _=rl
 refine zrange rl hz l.length (KK_lt (by omega)) (by omega) (fun i t s c=>tget t 0=d∧tget t 24=d∧tget t 2 = .ptr 0 0∧sget s 0=some (.fix 165 [.nils,.nils,.nils,.nils])∧1≤c∧∀ j,j<i→wrongP l j=none) (by decide) (by simp [ex_val]) (by simp [ex_val]) ⟨by simp [ex_val],by simp [ex_val],by simp [ex_val],by simp [ex_val],by decide,nofun⟩ ?_ ?_
 ·rintro i t s c hlt ⟨q0,q24,q2,s0,hc,hn⟩ hti htn
  have hrow:=hd.row hlt
  have f0:(0=c)=False:=eq_false (by omega)
  have h119:=c119 n l[i] (hok (by omega) _ (List.getElem_mem hlt)).1 (hok (by omega) _ (List.getElem_mem hlt)).2
  simp only [nodeC] at h119
  have htk:∀ a b c d e f g:D,takeAt [a,b,c,d,e,f,g] 0 (some 7)=some (.agg [a,b,c,d,e,f,g]):=fun _ _ _ _ _ _ _=>rfl
  by_cases hw:wrongI l[i]=0
  ·have hp:wrongP l i=none:=by rw [wrongP,List.getElem?_eq_getElem hlt]; exact if_pos hw
   rw [hw] at h119
   simp only [z2,seval,q0,q24,q2,hti,htn,hd.ia hlt,hrow,nodeC,f0,s0,htk,fn_pure (f:=95) rfl,ex_call,h119,Int.reduceEq,nb]
   exact ⟨trivial,trivial,trivial,.inr (.inr trivial),nofun,nofun,trivial,trivial,trivial,trivial,by first|trivial|omega,none_step hn hp⟩
  ·have hp:wrongP l i=some (e2 i (wrongI l[i])):=by rw [wrongP,List.getElem?_eq_getElem hlt]; exact if_neg hw
   simp only [z2,seval,q0,q24,q2,hti,htn,hd.ia hlt,hrow,nodeC,f0,s0,htk,fn_pure (f:=95) rfl,ex_call,h119,decide_eq_false hw,nb]
   refine ⟨.agg [.nils,.nils,.nils,.nils],i,wrongI l[i],true,scan_at hlt hp hn,?_,fun h=>absurd h hw⟩
   simp only [z2,seval,A60,q2]
   rfl
 ·rintro t s c ⟨q0,q24,q2,s0,hc,hn⟩ hti htn
  rw [scan_end hn]
  simp only [ex_code,↓reduceIte]
  exact U79_ok n hd hn (by omega) (by omega) hc s0 (by simp [ex_val,q0]) (by simp [ex_val,q2])
theorem c42 (n:Nat) {l:List Nd} {d:D} (hd:Sl 7 nodeC l d) (hl:l.length<4294967296) (hok:l.length≤400→NdOk l):cl (n+11) 34 [d]=some (exD l,true):=by
 obtain ⟨T,x,y,f,h1,h2,h3⟩:=c79 n hd hl hok
 rw [cl_run (A:=A34) rfl (n+11) _ rfl,show A34.body=B34 from rfl,h1]
 simp only [B34,Ab.abq]
 have hps:D.pures [d]=true:=by show (d.pure&&true)=true; rw [hd.pure]; rfl
 cases f <;> simp only [z2,seval,fn_pure (f:=60) rfl,ex_call,hd.fz,hps,h2,A34] <;> rfl
end
end Zv
namespace Zv
open Go
noncomputable section
theorem ex_dfr:(∀ (cx:Cx) (cl:CL) (dst:Option Nat) (g:Option (Nat × Bool)) (x:AS) (f:Arg) (l:List Arg),zOp cx cl ⟨dst,.callv f l,g⟩ x=callFn cx cl dst x (f.ev cx.G x.t) (evs l cx.G x.t)) ∧
  (∀ (cx:Cx) (cl:CL) (dst:Option Nat) (x:AS) (f:Nat) (p q args:List D),callFn cx cl dst x (.fn (.func f) p q) args=back dst x (cl (.fn f) (p++args++q) x.s x.c)) ∧
  (∀ (cx:Cx) (cl:CL) (dst:Option Nat) (g:Option (Nat × Bool)) (x:AS) (a:Arg),zOp cx cl ⟨dst,.pan a,g⟩ x=match a.ev cx.G x.t with | .iface t v => .ok (.pan [(.iface t v,false)]) x|_ => .no) ∧
  (∀ (cx:Cx) (cl:CL) (dst:Option Nat) (g:Option (Nat × Bool)) (f:Nat) (l:List Arg) (t:Tm) (s:St) (c:Nat) (d:List (D × List D)),zOp cx cl ⟨dst,.dfr (.f f) l,g⟩ ⟨t,s,c,d,none⟩ = .ok .normal ⟨putT dst t .un,s,c,(.fn (.func f) [] [],evs l cx.G t)::d,none⟩):=
 ⟨fun _ _ _ _ _ _ _=>rfl,fun _ _ _ _ _ _ _ _=>rfl,fun _ _ _ _ _ _=>rfl,fun _ _ _ _ _ _ _ _ _ _=>rfl⟩
theorem zbody_pan (df:Nat→List D→ZMode→St→Nat→DR) (A:AF) (ch:Ch) (t:Tm) (s:St) (c:Nat) (r:Option Nat):zbody df A (.ok (.pan ch) ⟨t,s,c,[],r⟩) = .ok (.pan ch) s c:=rfl
def panE (a e:Int):Ch:=[(.iface 141 (.agg [.int .i64 a,.int .i64 e]),false)]
theorem must_ok (n j:Nat) (a e:Int) (s:St) (c:Nat):fn n (j+1) (.fn 30) [.int .i64 a,.int .i64 e] s c=if e=0 then .ok (.ret (.tup [])) s c else .ok (.pan (panE a e)) s c:=by
 rw [fn_in (A:=A30) rfl rfl rfl rfl n j _ s c rfl,show A30.body=B30 from rfl]
 simp only [B30,Ab.abq]
 by_cases h:e=0
 ·rw [if_pos h]; subst h
  simp only [z2,seval,A30,show decide ((0:Int)≠0)=false from rfl]
 ·rw [if_neg h]
  simp only [z2,seval,A30,ex_dfr,show decide (e≠0)=true from decide_eq_true h,zbody_pan,panE]
theorem dfn_in {f:Nat} {A:AF} (hT:BX.T f=some A) (n j:Nat) (args:List D) (m:ZMode) (s:St) (c:Nat) (hl:Nat.beq args.length A.np=true):dfn n (j+1) f args m s c=zdbody A (zS (cxn n) (fn n j) KK A.body (start args s c) m):=by
 show zdef (lw BX ps ms KK MM n) KK (zN (lw BX ps ms KK MM n) KK j) f args m s c=_
 unfold zdef
 rw [(lw_base n).1,hT]
 simp only
 rw [hl]; rfl
theorem caught_none (n j:Nat) (s:St) (c:Nat):dfn n (j+1) 28 [.ptr 2 0,.ptr 1 0] none s c = .ok (.ret (.tup [])) none s c:=by
 rw [dfn_in (A:=A28) rfl n j _ _ s c rfl]
 rfl
def zSb (K:AS→ZMode→RS) (r:RS):RS:=match r with
 | .ok .normal y m=>K y m
 | r=>r
def zSc (v:D) (p q:RS):RS:=match v with
 | .bool r=>bif r then p else q
 | _ => .no
def zSl (id:Nat) (r:RS):RS:=match r with
 | .ok (.exit i) y m=>bif Nat.beq i id then .ok .normal y m else .ok (.exit i) y m
 | r=>r
def zSr (m:ZMode) (r:R):RS:=match r with
 | .ok o y => .ok o y m
 | .no => .no
def zSo (K:AS→RS) (m:ZMode) (r:R):RS:=match r with
 | .ok .normal y=>K y
 | .ok e y => .ok e y m
 | .no => .no
theorem ex_S:(∀ (cx:Cx) (cl:CL) (k:Nat) (m:ZMode) (x:AS) ops,zS cx cl k (.reg none ops) x m=zOpsS cx cl ops x m)∧(∀ (cx:Cx) (cl:CL) (k:Nat) (m:ZMode) (x:AS) o ops,zS cx cl k (.reg (some o) ops) x m=bif (AC.reg (some o) ops).noRcv then zSr m (zC (.reg (some o) ops) cx cl k x) else .no) ∧
  (∀ (cx:Cx) (cl:CL) (k:Nat) (m:ZMode) (x:AS) a b,zS cx cl k (.seq a b) x m=zSb (zS cx cl k b) (zS cx cl k a x m))∧(∀ (cx:Cx) (cl:CL) (k:Nat) (m:ZMode) (x:AS) v a b,zS cx cl k (.cond v a b) x m=zSc (v.ev cx.G x.t) (zS cx cl k a x m) (zS cx cl k b x m))∧(∀ (cx:Cx) (cl:CL) (k:Nat) (m:ZMode) (x:AS) i a,zS cx cl k (.block i a) x m=zSl i (zS cx cl k a x m)) ∧
  (∀ (cx:Cx) (cl:CL) (m:ZMode) (x:AS),zOpsS cx cl [] x m = .ok .normal x m)∧(∀ (cx:Cx) (cl:CL) (x:AS) n v o r,zOpsS cx cl (⟨some n,.rcv,none⟩::r) x (some ((v,false)::o))=zOpsS cx cl r ⟨tput x.t n v,x.s,x.c,x.d,x.r⟩ (some ((v,true)::o))) ∧
  (∀ (cx:Cx) (cl:CL) (m:ZMode) (x:AS) d a r,zOpsS cx cl (⟨d,.mv a,none⟩::r) x m=zSo (fun y=>zOpsS cx cl r y m) m (zOp cx cl ⟨d,.mv a,none⟩ x)) ∧
  (∀ (cx:Cx) (cl:CL) (m:ZMode) (x:AS) d a b u v r,zOpsS cx cl (⟨d,.cmp a b u v,none⟩::r) x m=zSo (fun y=>zOpsS cx cl r y m) m (zOp cx cl ⟨d,.cmp a b u v,none⟩ x)) ∧
  (∀ (cx:Cx) (cl:CL) (m:ZMode) (x:AS) d a b u v r,zOpsS cx cl (⟨d,.tas a b u v,none⟩::r) x m=zSo (fun y=>zOpsS cx cl r y m) m (zOp cx cl ⟨d,.tas a b u v,none⟩ x)) ∧
  (∀ (cx:Cx) (cl:CL) (m:ZMode) (x:AS) d a b r,zOpsS cx cl (⟨d,.ext a b,none⟩::r) x m=zSo (fun y=>zOpsS cx cl r y m) m (zOp cx cl ⟨d,.ext a b,none⟩ x)) ∧
  (∀ (cx:Cx) (cl:CL) (m:ZMode) (x:AS) d a b r,zOpsS cx cl (⟨d,.new a b,none⟩::r) x m=zSo (fun y=>zOpsS cx cl r y m) m (zOp cx cl ⟨d,.new a b,none⟩ x)) ∧
  (∀ (cx:Cx) (cl:CL) (m:ZMode) (x:AS) d a b u r,zOpsS cx cl (⟨d,.st a b u,none⟩::r) x m=zSo (fun y=>zOpsS cx cl r y m) m (zOp cx cl ⟨d,.st a b u,none⟩ x)) ∧
  (∀ m K y,zSo K m (.ok .normal y)=K y)∧(∀ m K y,zSb K (.ok .normal y m)=K y m)∧(∀ p q,zSc (.bool true) p q=p)∧(∀ p q,zSc (.bool false) p q=q)∧(∀ m i y,zSl i (.ok .normal y m) = .ok .normal y m)∧(∀ m o y,zSr m (.ok o y) = .ok o y m):=
 ⟨fun _ _ _ _ _ _=>rfl,fun _ _ _ _ _ _ _=>rfl,fun _ _ _ _ _ _ _=>rfl,fun _ _ _ _ _ _ _ _=>rfl,fun _ _ _ _ _ _ _=>rfl,fun _ _ _ _=>rfl,fun _ _ _ _ _ _ _=>rfl,fun _ _ _ _ _ _ _=>rfl,fun _ _ _ _ _ _ _ _ _ _=>rfl,fun _ _ _ _ _ _ _ _ _ _=>rfl,fun _ _ _ _ _ _ _ _=>rfl,fun _ _ _ _ _ _ _ _=>rfl,fun _ _ _ _ _ _ _ _ _=>rfl,fun _ _ _=>rfl,fun _ _ _=>rfl,fun _ _=>rfl,fun _ _=>rfl,fun _ _ _=>rfl,fun _ _ _=>rfl⟩
theorem caught_some (n j:Nat) (a e x y:Int) {k k':Nat} {s:St} {c:Nat} (h1:sget s 1=some (.fix k [.int .i64 x])) (h2:sget s 2=some (.fix k' [.int .i64 y])) (hf:∀ m,c≤m→sget s m=none) (hc:3≤c) :
  ∃ s' c',dfn n (j+1) 28 [.ptr 2 0,.ptr 1 0] (some (panE a e)) s c = .ok (.ret (.tup [])) (some [(.iface 141 (.agg [.int .i64 a,.int .i64 e]),true)]) s' c'∧sget s' 1=some (.fix k [.int .i64 e])∧sget s' 2=some (.fix k' [.int .i64 a]):=by
 rw [dfn_in (A:=A28) rfl n j _ _ s c rfl,show A28.body=B28 from rfl]
 unfold B28 panE
 have f1:(1=c)=False:=eq_false (by omega)
 have f2:(2=c)=False:=eq_false (by omega)
 have g1:(c=1)=False:=eq_false (by omega)
 have g2:(c=2)=False:=eq_false (by omega)
 have hcm:∀ d,cmpD (.ifc true) (.iface 141 d) .nilif=some false:=fun _=>rfl
 simp only [z2,seval,ex_S,f1,f2,g1,g2,h1,h2,hcm,List.cons_append,List.nil_append,AC.noRcv,zipO,killT,AOp.kd,zop,step_nilc,tks,sameStep,sd_or,nb]
 refine ⟨_,_,rfl,?_,?_⟩
 ·simp only [ex_val]; simp
 ·simp only [ex_val]; simp
def mpS:Nat→List (List UInt8)→List (D × D × Nat)
 | _,[]=>[]
 | k,s::r=>(.str s,.bool true,k)::mpS (k+1) r
theorem mpS_snoc:∀ (L:List (List UInt8)) (k:Nat) (s:List UInt8),mpS k L++[(.str s,.bool true,k+L.length)]=mpS k (L++[s])
 | [],k,s=>rfl
 | a::L,k,s=>by
  simp only [mpS,List.cons_append,List.length_cons]
  rw [show k+(L.length+1)=k+1+L.length by omega,mpS_snoc L (k+1) s]
theorem mfind_mpS (x:List UInt8):∀ (L:List (List UInt8)) (k n:Nat),(x∈L∧∃ i,mfind .str (.str x) (mpS k L) n=some (some (i,.bool true)))∨(x∉L∧mfind .str (.str x) (mpS k L) n=some none)
 | [],k,n => .inr ⟨by simp,rfl⟩
 | a::L,k,n=>by
  have h:keyEq .str (.str x) (.str a)=some (decide (x=a)):=by
   show some (x==a)=_
   rw [show (x==a)=decide (x=a) from by rw [Bool.eq_iff_iff]; simp]
  simp only [mpS,mfind,h]
  by_cases e:x=a
  ·rw [decide_eq_true e]; exact .inl ⟨by simp [e],n,rfl⟩
  ·rw [decide_eq_false e]
   rcases mfind_mpS x L (k+1) (n+1) with ⟨h1,h2⟩|⟨h1,h2⟩
   ·exact .inl ⟨by simp [h1],h2⟩
   ·exact .inr ⟨by simp [e,h1],h2⟩
def nameE (s:List UInt8) (had:List (List UInt8)):Int:=if isName s=true then (if s∈had then 8 else 0) else 6
theorem fresh_ok (n j:Nat) {nm:List UInt8} (hl:nm.length<9223372036854775807) {L:List (List UInt8)} {s:St} {c:Nat} (h4:sget s 4=some (.fix 99 [.mp 3])) (h3:sget s 3=some (.mp (mpS 0 L) L.length)) :
  fn (n+9) (j+2) (.fn 31) [.str nm,.ptr 4 0] s c=if nameE nm L=0 then .ok (.ret (.tup [])) (sset s 3 (.mp (mpS 0 (L++[nm])) (L.length+1))) c else .ok (.pan (panE 0 (nameE nm L))) s c:=by
 rw [fn_in (A:=A31) rfl rfl rfl rfl (n+9) (j+1) _ s c rfl,show A31.body=B31 from rfl]
 unfold B31 nameE
 have h61:=c61 n nm hl
 have hsn:=mpS_snoc L 0 nm
 rw [Nat.zero_add] at hsn
 cases hb:isName nm
 ·rw [hb] at h61
  simp only [z2,seval,A31,fn_pure (f:=32) rfl,ex_call,h61,must_ok,nb,zbody_pan] <;> rfl
 ·rw [hb] at h61
  rcases mfind_mpS nm L 0 0 with ⟨h1,i,h2⟩|⟨h1,h2⟩
  ·simp only [z2,seval,A31,fn_pure (f:=32) rfl,ex_call,h61,must_ok,nb,h4,h3,h2,if_pos h1,zbody_pan] <;> rfl
  ·simp only [z2,seval,A31,fn_pure (f:=32) rfl,ex_call,h61,must_ok,nb,h4,h3,h2,if_neg h1,zbody_pan,hsn]
end
end Zv
namespace Zv
open Go
noncomputable section
structure Vr where
 name:List UInt8
 ty:Ty
def vrC (v:Vr):List D := .str v.name::tyC v.ty
structure Fd where
 name:List UInt8
 ps:List (List UInt8)
 body:List Nd
 pd:D
 bd:D
def fdC (f:Fd):List D:=[.str f.name,f.pd,f.bd]
structure FdOk (f:Fd):Prop where
 nm:f.name.length<9223372036854775807
 p:Sl 1 strC f.ps f.pd
 b:Sl 7 nodeC f.body f.bd
 pn:∀ s∈f.ps,s.length<9223372036854775807
 pl:f.ps.length<9223372036854775807
 bl:f.body.length<4294967296
 nd:f.body.length≤400→NdOk f.body
def exE (l:List Nd):Int:=match exD l with | .tup [_,.int _ e]=>e|_=>0
theorem exE_eq {l:List Nd} {x y:Int} (h:exD l=e2 x y):exE l=y:=by unfold exE; rw [h]; rfl
def defE (f:Fd):Int:=if f.ps.length=1∨f.ps.length=2 then (if f.ps.all isName=true then (if f.ps.length=2∧f.ps.getD 0 []=f.ps.getD 1 [] then 8 else exE f.body) else 6) else 23
def vP (us:List Nat) (vs:List Vr) (i:Nat):Option Int:=match vs[i]? with
 | some v=>if nameE v.name ((vs.take i).map Vr.name)=0 then (if tyE us (lowI us) v.ty=0 then none else some (tyE us (lowI us) v.ty)) else some (nameE v.name ((vs.take i).map Vr.name))
 | none=>none
def dfP (vs:List Vr) (fs:List Fd) (i:Nat):Option Int:=match fs[i]? with
 | some f=>if nameE f.name (vs.map Vr.name++(fs.take i).map Fd.name)=0 then (if defE f=0 then none else some (defE f)) else some (nameE f.name (vs.map Vr.name++(fs.take i).map Fd.name))
 | none=>none
def envE (us:List Nat) (vs:List Vr) (fs:List Fd):Int:=if 32<vs.length∨16<fs.length then 3 else scan (vP us vs) (scan (dfP vs fs) 0 fs.length 0) vs.length 0
structure EnvOk (vs:List Vr) (fs:List Fd) (v f:D):Prop where
 v:Sl 6 vrC vs v
 f:Sl 3 fdC fs f
 vl:vs.length<9223372036854775807
 fl:fs.length<9223372036854775807
 vn:∀ x∈vs,x.name.length<9223372036854775807
 fo:∀ x∈fs,FdOk x
theorem take_map_succ {α β:Type} (g:α→β) {l:List α} {i:Nat} (h:i<l.length):(l.take (i+1)).map g=(l.take i).map g++[g l[i]]:=by
 rw [List.take_succ_eq_append_getElem h,List.map_append]; rfl
end
end Zv
namespace Zv
open Go Ab
noncomputable section
def W22:AC:=(s (s (r [f 52 3 1,l 53 52,u 54 (.len false (.t 53)),c 55 (i 0)]) (.block 4 (.loop (s (r [b 56 .lss 55 54]) (s (.cond (.t 56) .skip (.exit 4)) (s (.block 6 (s (r [u 57 (.iaS 3 (.t 53) (.t 55)),u 58 (.ld (some 3) (.t 57)),u 9 (.new 44 (.c (.agg [(.str []),.nils,.nils]))),w (.st 3 (.t 9) (.t 58))]) (s (r [m 59 5,f 60 0 9,l 61 60,u 62 (.callv (.t 59) [(.t 61)])]) (s (s (r [f 63 1 9,l 64 63,u 65 (.len false (.t 64)),d 66 .neq 65 (i 1),m 67 66,y 68 67 (.fa 1 (.t 9)),y 69 67 (.ld none (.t 68)),y 70 67 (.len false (.t 69)),y 71 67 (.bin .neq (.t 70) (.c (i 2))),u 72 (.pick (.t 67) (.t 71) (.c (.bool false)))]) (.cond (.t 72) (r [u 73 (.call 30 [(.c (i 0)),(.c (i 23))])]) .skip)) (s (s (r [f 74 1 9,l 75 74,u 76 (.len false (.t 75)),c 77 (i 0)]) (.block 8 (.loop (s (r [b 78 .lss 77 76]) (s (.cond (.t 78) .skip (.exit 8)) (s (.block 10 (s (r [u 79 (.iaS 1 (.t 75) (.t 77)),l 80 79,m 11 80]) (s (r [m 81 11,u 82 (.call 32 [(.t 81)]),u 83 (.un .not (.t 82))]) (.cond (.t 83) (r [u 84 (.call 30 [(.c (i 0)),(.c (i 6))])]) .skip)))) (r [d 85 .add 77 (i 1),m 77 85]))))))) (s (s (.reg (some [(0,0),(1,0),(2,0),(3,0),(4,0),(5,0),(6,0),(7,0),(8,0),(9,0),(10,0),(11,0),(12,0),(13,0),(14,0)]) [f 86 1 9,l 87 86,u 88 (.len false (.t 87)),d 89 .eql 88 (i 2),m 90 89,y 91 90 (.fa 1 (.t 9)),y 92 90 (.ld none (.t 91)),y 93 90 (.iaS 1 (.t 92) (.c (i 0))),y 94 90 (.ld none (.t 93)),y 95 90 (.fa 1 (.t 9)),y 96 90 (.ld none (.t 95)),y 97 90 (.iaS 1 (.t 96) (.c (i 1))),y 98 90 (.ld none (.t 97)),y 99 90 (.bin .eql (.t 94) (.t 98)),u 100 (.pick (.t 90) (.t 99) (.c (.bool false)))]) (.cond (.t 100) (r [u 101 (.call 30 [(.c (i 0)),(.c (i 8))])]) .skip)) (s (r [f 103 2 9,l 104 103,u 105 (.call 34 [(.t 104)]),m 102 105,e 106 0 102,e 107 1 102,m 12 106,m 13 107]) (r [m 108 13,u 109 (.call 30 [(.c (i 0)),(.t 108)])])))))))) (r [d 110 .add 55 (i 1),m 55 110]))))))) (s (r [w (.st 1 (.t 2) (.c (i 0)))]) .ret))
def U22:AC:=(s (s (r [f 34 2 1,l 35 34,u 36 (.len false (.t 35)),c 37 (i 0)]) (.block 0 (.loop (s (r [b 38 .lss 37 36]) (s (.cond (.t 38) .skip (.exit 0)) (s (.block 2 (s (r [u 39 (.iaS 6 (.t 35) (.t 37)),u 40 (.ld (some 6) (.t 39)),u 7 (.new 78 (.c (.agg [(.str []),(i 0),(i 0),(i 0),(i 0),(i 0)]))),w (.st 6 (.t 7) (.t 40))]) (s (r [m 41 5,f 42 0 7,l 43 42,u 44 (.callv (.t 41) [(.t 43)])]) (r [f 45 0 1,u 46 (.ld (some 2) (.t 45)),f 47 1 7,u 48 (.ld (some 5) (.t 47)),u 49 (.call 33 [(.t 46),(.t 48)]),u 50 (.call 30 [(.c (i 0)),(.t 49)])])))) (r [d 51 .add 37 (i 1),m 37 51]))))))) W22)
theorem B22_eq:B17=(s (r [u 1 (.new 30 (.t 0)),u 2 (.new 37 (.c (i 0)))]) (s (r [u 3 (.new 4 (.c (i 0))),w (.st 1 (.t 3) (.c (i 0)))]) (s (r [w (.dfr (.f 28) [(.t 3),(.t 2)])]) (s (r [f 15 0 1,u 16 (.ld (some 2) (.t 15)),u 17 (.call 29 [(.t 16)]),m 14 17,e 18 0 14,e 19 1 14,w (.st 1 (.t 2) (.t 19))]) (s (r [l 20 2,u 21 (.call 30 [(.c (i 0)),(.t 20)])]) (s (s (r [f 22 2 1,l 23 22,u 24 (.len false (.t 23)),d 25 .gtr 24 (i 32),m 26 25,n 27 26 (.fa 3 (.t 1)),n 28 26 (.ld none (.t 27)),n 29 26 (.len false (.t 28)),n 30 26 (.bin .gtr (.t 29) (.c (i 16))),u 31 (.pick (.t 26) (.c (.bool true)) (.t 30))]) (.cond (.t 31) (s (r [w (.st 1 (.t 2) (.c (i 3)))]) .ret) .skip)) (s (r [u 32 .mkm,u 4 (.new 99 (.c .nilm)),w (.st 1 (.t 4) (.t 32))]) (s (r [u 33 (.mkfn (.func 31) [] [(.t 4)]),m 5 33]) U22)))))))):=rfl
def D22:List (D × List D):=[(.fn (.func 28) [] [],[.ptr 2 0,.ptr 1 0])]
theorem end22_pan (n:Nat) (e x y:Int) {t:Tm} {k k':Nat} {s:St} {c:Nat} (h1:sget s 1=some (.fix k [.int .i64 x])) (h2:sget s 2=some (.fix k' [.int .i64 y])) (hf:∀ m,c≤m→sget s m=none) (hc:3≤c) (q2:tget t 2 = .ptr 1 0) :
  pout (zbody (dfn n MM) A17 (.ok (.pan (panE 0 e)) ⟨t,s,c,D22,none⟩))=some (.int .i64 e,true):=by
 obtain ⟨s',c',h,h1',_⟩:=caught_some n 4095 0 e x y h1 h2 hf hc
 have h:dfn n MM 28 [.ptr 2 0,.ptr 1 0] (some (panE 0 e)) s c=_:=h
 have:zbody (dfn n MM) A17 (.ok (.pan (panE 0 e)) ⟨t,s,c,D22,none⟩) = .ok (.ret (.int .i64 e)) s' c':=by
  show zEnd (dfn n MM) A17 (some (panE 0 e)) ⟨t,s,c,D22,none⟩=_
  unfold zEnd D22
  simp only [zDs,List.nil_append,List.append_nil,h,settle]
  simp only [z2,seval,A17,q2,h1']
 rw [this]; rfl
theorem end22_ret (n:Nat) (e:Int) {t:Tm} {k:Nat} {s:St} {c:Nat} (h1:sget s 1=some (.fix k [.int .i64 e])) (q2:tget t 2 = .ptr 1 0) :
  pout (zbody (dfn n MM) A17 (.ok .ret ⟨t,s,c,D22,none⟩))=some (.int .i64 e,true):=by
 have h:dfn n MM 28 [.ptr 2 0,.ptr 1 0] none s c=_:=caught_none n 4095 s c
 have:zbody (dfn n MM) A17 (.ok .ret ⟨t,s,c,D22,none⟩) = .ok (.ret (.int .i64 e)) s c:=by
  show zEnd (dfn n MM) A17 none ⟨t,s,c,D22,none⟩=_
  unfold zEnd D22
  simp only [zDs,List.nil_append,List.append_nil,h,settle]
  simp only [z2,seval,A17,q2,h1]
 rw [this]; rfl
structure I22 (d e v f:D) (L:List (List UInt8)) (t:Tm) (s:St) (c:Nat):Prop where
 s0:sget s 0=some (.fix 30 [d,e,v,f])
 s1:sget s 1=some (.fix 37 [.int .i64 0])
 s2:sget s 2=some (.fix 4 [.int .i64 0])
 s3:sget s 3=some (.mp (mpS 0 L) L.length)
 s4:sget s 4=some (.fix 99 [.mp 3])
 hc:5≤c
 hf:∀ m,c≤m→sget s m=none
 q1:tget t 1 = .ptr 0 0
 q2:tget t 2 = .ptr 1 0
 q5:tget t 5 = .fn (.func 31) [] [.ptr 4 0]
def Out22 (n:Nat) (r:R) (e:Int):Prop:=pout (zbody (dfn n MM) A17 r)=some (.int .i64 e,true)
theorem I22.pan {d e v f:D} {L:List (List UInt8)} {t:Tm} {s:St} {c:Nat} (h:I22 d e v f L t s c) (n:Nat) (er:Int) {t':Tm} {s':St} {c':Nat} (q2:tget t' 2=tget t 2) (h1:sget s' 1=sget s 1) (h2:sget s' 2=sget s 2) (hc:c≤c') (hf:∀ m,c'≤m→sget s' m=none):Out22 n (.ok (.pan (panE 0 er)) ⟨t',s',c',D22,none⟩) er:=
 end22_pan n er 0 0 (by rw [h1]; exact h.s1) (by rw [h2]; exact h.s2) hf (by have:=h.hc; omega) (by rw [q2]; exact h.q2)
theorem I22.next {d e v f:D} {L:List (List UInt8)} {t:Tm} {s:St} {c:Nat} (h:I22 d e v f L t s c) (nm:List UInt8) (b b':Blk) {t':Tm} (q1:tget t' 1=tget t 1) (q2:tget t' 2=tget t 2) (q5:tget t' 5=tget t 5):I22 d e v f (L++[nm]) t' (sset (sset (sadd s c b) c b') 3 (.mp (mpS 0 (L++[nm])) (L.length+1))) (c+1):=by
 have hc:=h.hc
 have k:∀ m,m<5→m≠3→sget (sset (sset (sadd s c b) c b') 3 (.mp (mpS 0 (L++[nm])) (L.length+1))) m=sget s m:=fun m hm h3=>by rw [sget_sset,if_neg h3,sget_sset,if_neg (by omega),sget_sadd,if_neg (by omega)]
 exact ⟨by rw [k 0 (by decide) (by decide)]; exact h.s0,by rw [k 1 (by decide) (by decide)]; exact h.s1,by rw [k 2 (by decide) (by decide)]; exact h.s2,by rw [sget_sset,if_pos rfl,List.length_append]; rfl,by rw [k 4 (by decide) (by decide)]; exact h.s4,by omega,
  fun m hm=>by rw [sget_sset,if_neg (by omega),sget_sset,if_neg (by omega),sget_sadd,if_neg (by omega)]; exact h.hf m (by omega),by rw [q1]; exact h.q1,by rw [q2]; exact h.q2,by rw [q5]; exact h.q5⟩
theorem U22_ok (n:Nat) {ss:List (List UInt8)} {us:List Nat} {d e v f:D} {vs:List Vr} {fs:List Fd} (hd:Sl 1 strC ss d) (he:Sl 1 u8C us e) (hu:Bytes8 us) (hs:Small ss) (hC:CHK ss us=e2 0 0) (hE:EnvOk vs fs v f)
  (hW:∀ {t:Tm} {s:St} {c:Nat},I22 d e v f (vs.map Vr.name) t s c→Out22 (n+12) (zC W22 (cxn (n+12)) (fn (n+12) 4096) KK ⟨t,s,c,D22,none⟩) (scan (dfP vs fs) 0 fs.length 0))
  {t:Tm} {s:St} {c:Nat} (hI:I22 d e v f [] t s c):Out22 (n+12) (zC U22 (cxn (n+12)) (fn (n+12) 4096) KK ⟨t,s,c,D22,none⟩) (scan (vP us vs) (scan (dfP vs fs) 0 fs.length 0) vs.length 0):=by
 simp only [U22,Ab.abq]
 simp only [z2,seval,hI.q1,hI.s0,hE.v.len]
 generalize hz:zloop KK _ _=rl
 refine zrange rl hz vs.length (KK_lt hE.vl) hE.vl (fun i t s c=>I22 d e v f ((vs.take i).map Vr.name) t s c∧tget t 35=v∧∀ j,j<i→vP us vs j=none) (by decide) (by simp [ex_val]) (by simp [ex_val])
  ⟨⟨hI.s0,hI.s1,hI.s2,hI.s3,hI.s4,hI.hc,hI.hf,by simp [ex_val,hI.q1],by simp [ex_val,hI.q2],by simp [ex_val,hI.q5]⟩,by simp [ex_val],nofun⟩ ?_ ?_
 ·clear hI hz
  rintro i t s c hlt ⟨hI,q35,hn⟩ hti htn
  have hrow:=hE.v.row hlt
  have hfr:=fun s c h4 h3=>fresh_ok (n+3) 4094 (nm:=vs[i].name) (hE.vn _ (List.getElem_mem hlt)) (L:=(vs.take i).map Vr.name) (s:=s) (c:=c) h4 h3
  have h62:=c62 (n+2) hd he hu hs hC vs[i].ty
  have hgl:vs[i]?=some vs[i]:=List.getElem?_eq_getElem hlt
  have hst:=take_map_succ Vr.name hlt
  have hP:vP us vs i=if nameE vs[i].name ((vs.take i).map Vr.name)=0 then (if tyE us (lowI us) vs[i].ty=0 then none else some (tyE us (lowI us) vs[i].ty)) else some (nameE vs[i].name ((vs.take i).map Vr.name)):=by rw [vP,hgl]
  have htk:takeAt [d,e,v,f] 0 (some 2)=some (.agg [d,e]):=rfl
  have htk6:∀ a b c d e f:D,takeAt [a,b,c,d,e,f] 0 (some 6)=some (.agg [a,b,c,d,e,f])∧takeAt [a,b,c,d,e,f] 1 (some 5)=some (.agg [b,c,d,e,f]):=fun _ _ _ _ _ _=>⟨rfl,rfl⟩
  simp only [tyC] at h62
  generalize hN:nameE vs[i].name ((vs.take i).map Vr.name)=en at *
  generalize hT:tyE us (lowI us) vs[i].ty=et at *
  generalize hL:(vs.take i).map Vr.name=L at *
  have hh:=hI.hc
  have f0:(0=c)=False:=eq_false (by omega)
  have f1:(1=c)=False:=eq_false (by omega)
  have f2:(2=c)=False:=eq_false (by omega)
  have f3:(3=c)=False:=eq_false (by omega)
  have f4:(4=c)=False:=eq_false (by omega)
  have g3:(c=3)=False:=eq_false (by omega)
  by_cases h0:en=0
  ·subst h0
   simp only [if_true] at hfr hP
   by_cases h1:et=0
   ·subst h1
    rw [if_pos rfl] at hP
    simp only [z2,seval,hI.q1,hI.q2,hI.q5,q35,hti,htn,hE.v.ia hlt,hrow,vrC,tyC,hI.s0,f0,f1,f2,f3,f4,g3,hI.s3,hI.s4,ex_dfr,List.nil_append,List.append_nil,List.cons_append,hfr,htk,htk6,fn_pure (f:=33) rfl,ex_call,hd.fz,he.fz,h62,must_ok,nb]
    refine ⟨trivial,trivial,trivial,.inr (.inr trivial),nofun,nofun,?_,trivial,none_step hn hP⟩
    rw [hst]
    exact hI.next _ _ _ (by simp [ex_val]) (by simp [ex_val]) (by simp [ex_val])
   ·rw [if_neg h1] at hP
    have hm:∀ s c,fn (n+12) 4096 (.fn 30) [.int .i64 0,.int .i64 et] s c = .ok (.pan (panE 0 et)) s c:=fun s c=>by rw [must_ok,if_neg h1]
    simp only [z2,seval,hI.q1,hI.q2,hI.q5,q35,hti,htn,hE.v.ia hlt,hrow,vrC,tyC,hI.s0,f0,f1,f2,f3,f4,g3,hI.s3,hI.s4,ex_dfr,List.nil_append,List.append_nil,List.cons_append,hfr,htk,htk6,fn_pure (f:=33) rfl,ex_call,hd.fz,he.fz,h62,hm,nb]
    rw [scan_at hlt hP hn]
    exact hI.pan (n+12) et (by simp [ex_val]) (by simp [ex_val,f1]) (by simp [ex_val,f2]) (Nat.le_succ _) fun m hm=>by rw [sget_sset,if_neg (by omega),sget_sset,if_neg (by omega),sget_sadd,if_neg (by omega)]; exact hI.hf m (by omega)
  ·simp only [if_neg h0] at hfr hP
   simp only [z2,seval,hI.q1,hI.q2,hI.q5,q35,hti,htn,hE.v.ia hlt,hrow,vrC,tyC,hI.s0,f0,f1,f2,f3,f4,g3,hI.s3,hI.s4,ex_dfr,List.nil_append,List.append_nil,List.cons_append,hfr,htk,htk6,nb]
   rw [scan_at hlt hP hn]
   exact hI.pan (n+12) en (by simp [ex_val]) (by simp [ex_val,f1]) (by simp [ex_val,f2]) (Nat.le_succ _) fun m hm=>by rw [sget_sset,if_neg (by omega),sget_sadd,if_neg (by omega)]; exact hI.hf m (by omega)
 ·rintro t s c ⟨hI,q35,hn⟩ hti htn
  rw [scan_end hn]
  simp only [ex_code,↓reduceIte]
  rw [List.take_length] at hI
  exact hW ⟨hI.s0,hI.s1,hI.s2,hI.s3,hI.s4,hI.hc,hI.hf,by simp [ex_val,hI.q1],by simp [ex_val,hI.q2],by simp [ex_val,hI.q5]⟩
end
end Zv
namespace Zv
open Go Ab
noncomputable section
def Xc22:AC:=(s (s (.reg (some [(0,0),(1,0),(2,0),(3,0),(4,0),(5,0),(6,0),(7,0),(8,0),(9,0),(10,0),(11,0),(12,0),(13,0),(14,0)]) [f 86 1 9,l 87 86,u 88 (.len false (.t 87)),d 89 .eql 88 (i 2),m 90 89,y 91 90 (.fa 1 (.t 9)),y 92 90 (.ld none (.t 91)),y 93 90 (.iaS 1 (.t 92) (.c (i 0))),y 94 90 (.ld none (.t 93)),y 95 90 (.fa 1 (.t 9)),y 96 90 (.ld none (.t 95)),y 97 90 (.iaS 1 (.t 96) (.c (i 1))),y 98 90 (.ld none (.t 97)),y 99 90 (.bin .eql (.t 94) (.t 98)),u 100 (.pick (.t 90) (.t 99) (.c (.bool false)))]) (.cond (.t 100) (r [u 101 (.call 30 [(.c (i 0)),(.c (i 8))])]) .skip)) (s (r [f 103 2 9,l 104 103,u 105 (.call 34 [(.t 104)]),m 102 105,e 106 0 102,e 107 1 102,m 12 106,m 13 107]) (r [m 108 13,u 109 (.call 30 [(.c (i 0)),(.t 108)])])))
def X22:AC:=(s (s (r [f 63 1 9,l 64 63,u 65 (.len false (.t 64)),d 66 .neq 65 (i 1),m 67 66,y 68 67 (.fa 1 (.t 9)),y 69 67 (.ld none (.t 68)),y 70 67 (.len false (.t 69)),y 71 67 (.bin .neq (.t 70) (.c (i 2))),u 72 (.pick (.t 67) (.t 71) (.c (.bool false)))]) (.cond (.t 72) (r [u 73 (.call 30 [(.c (i 0)),(.c (i 23))])]) .skip)) (s (s (r [f 74 1 9,l 75 74,u 76 (.len false (.t 75)),c 77 (i 0)]) (.block 8 (.loop (s (r [b 78 .lss 77 76]) (s (.cond (.t 78) .skip (.exit 8)) (s (.block 10 (s (r [u 79 (.iaS 1 (.t 75) (.t 77)),l 80 79,m 11 80]) (s (r [m 81 11,u 82 (.call 32 [(.t 81)]),u 83 (.un .not (.t 82))]) (.cond (.t 83) (r [u 84 (.call 30 [(.c (i 0)),(.c (i 6))])]) .skip)))) (r [d 85 .add 77 (i 1),m 77 85]))))))) Xc22))
theorem W22_eq:W22=(s (s (r [f 52 3 1,l 53 52,u 54 (.len false (.t 53)),c 55 (i 0)]) (.block 4 (.loop (s (r [b 56 .lss 55 54]) (s (.cond (.t 56) .skip (.exit 4)) (s (.block 6 (s (r [u 57 (.iaS 3 (.t 53) (.t 55)),u 58 (.ld (some 3) (.t 57)),u 9 (.new 44 (.c (.agg [(.str []),.nils,.nils]))),w (.st 3 (.t 9) (.t 58))]) (s (r [m 59 5,f 60 0 9,l 61 60,u 62 (.callv (.t 59) [(.t 61)])]) X22))) (r [d 110 .add 55 (i 1),m 55 110]))))))) (s (r [w (.st 1 (.t 2) (.c (i 0)))]) .ret)):=rfl
def Res22 (d e v f:D) (L:List (List UInt8)) (t:Tm) (r:R) (er:Int):Prop:=∃ t' s' c',r = .ok (if er=0 then .normal else .pan (panE 0 er)) ⟨t',s',c',D22,none⟩∧I22 d e v f L t' s' c'∧∀ k,k=53∨k=54∨k=55→tget t' k=tget t k
theorem Res22.go {d e v f:D} {L:List (List UInt8)} {t t':Tm} {s:St} {c:Nat} (h:I22 d e v f L t' s c) (hk:∀ k,k=53∨k=54∨k=55→tget t' k=tget t k):Res22 d e v f L t (.ok .normal ⟨t',s,c,D22,none⟩) 0:=⟨_,_,_,rfl,h,hk⟩
theorem Res22.bad {d e v f:D} {L:List (List UInt8)} {t t':Tm} {s:St} {c:Nat} {er:Int} (h0:¬ er=0) (h:I22 d e v f L t' s c) (hk:∀ k,k=53∨k=54∨k=55→tget t' k=tget t k):Res22 d e v f L t (.ok (.pan (panE 0 er)) ⟨t',s,c,D22,none⟩) er:=⟨_,_,_,by rw [if_neg h0],h,hk⟩
theorem I22.tmp {d e v f:D} {L:List (List UInt8)} {t t':Tm} {s:St} {c c':Nat} (h:I22 d e v f L t s c) (hc:c≤c') (q1:tget t' 1=tget t 1) (q2:tget t' 2=tget t 2) (q5:tget t' 5=tget t 5):I22 d e v f L t' s c':=
 ⟨h.s0,h.s1,h.s2,h.s3,h.s4,Nat.le_trans h.hc hc,fun m hm=>h.hf m (Nat.le_trans hc hm),by rw [q1]; exact h.q1,by rw [q2]; exact h.q2,by rw [q5]; exact h.q5⟩
theorem Xc_ok (n:Nat) {d e v f:D} {L:List (List UInt8)} {x:Fd} (hx:FdOk x) (hl:x.ps.length=1∨x.ps.length=2) {t:Tm} {s:St} {c k:Nat} (hI:I22 d e v f L t s c) (q9:tget t 9 = .ptr k 0) (sk:sget s k=some (.fix 44 [.str x.name,x.pd,x.bd])) :
  Res22 d e v f L t (zC Xc22 (cxn (n+12)) (fn (n+12) 4096) KK ⟨t,s,c,D22,none⟩) (if x.ps.length=2∧x.ps.getD 0 []=x.ps.getD 1 [] then 8 else exE x.body):=by
 obtain ⟨xn,ps,bo,pd,bd⟩:=x
 have h42:=c42 n hx.b hx.bl hx.nd
 obtain ⟨T,x,y,_,h1,_⟩:=c79 n hx.b hx.bl hx.nd
 have h2:=exE_eq h1
 rw [h1] at h42
 have hp:=hx.p
 have hlen:=hp.len
 have hfz:=hx.b.fz
 have hb:=hx.b.pure
 simp only at *
 rw [h2]
 simp only [Xc22,Ab.abq]
 rcases hl with hl|hl
 ·obtain ⟨a,rfl⟩:∃ a,ps=[a]:=by
   match ps,hl with
   | [a],_=>exact ⟨a,rfl⟩
  rw [if_neg (by simp)]
  have k2:decide ((([a]:List (List UInt8)).length:Int)=2)=false:=rfl
  by_cases h0:y=0
  ·subst h0
   simp only [z2,seval,q9,sk,hlen,k2,zipO,killT,AOp.kd,zop,tks,sameStep,sd_or,fn_pure (f:=34) rfl,ex_call,hfz,h42,namesD_e2,must_ok,nb]
   exact Res22.go (hI.tmp (Nat.le_add_right _ _) (by simp [ex_val]) (by simp [ex_val]) (by simp [ex_val])) (fun k hk=>by rcases hk with rfl|rfl|rfl <;> simp [ex_val])
  ·have hm:∀ s c,fn (n+12) 4096 (.fn 30) [.int .i64 0,.int .i64 y] s c = .ok (.pan (panE 0 y)) s c:=fun s c=>by rw [must_ok,if_neg h0]
   simp only [z2,seval,q9,sk,hlen,k2,zipO,killT,AOp.kd,zop,tks,sameStep,sd_or,fn_pure (f:=34) rfl,ex_call,hfz,h42,namesD_e2,hm,nb]
   exact Res22.bad h0 (hI.tmp (Nat.le_add_right _ _) (by simp [ex_val]) (by simp [ex_val]) (by simp [ex_val])) (fun k hk=>by rcases hk with rfl|rfl|rfl <;> simp [ex_val])
 ·obtain ⟨a,b,rfl⟩:∃ a b,ps=[a,b]:=by
   match ps,hl with
   | [a,b],_=>exact ⟨a,b,rfl⟩
  have k2:decide ((([a,b]:List (List UInt8)).length:Int)=2)=true:=rfl
  have ia:iaSD 1 pd (.int .i64 0)=some (.iptr ([a,b].map strC).flatten 0):=hp.ia1 (i:=0) (by simp)
  have ib:iaSD 1 pd (.int .i64 1)=some (.iptr ([a,b].map strC).flatten 1):=hp.ia1 (i:=1) (by simp)
  have at0:([a,b].map strC).flatten[0]?=some (.str a):=rfl
  have at1:([a,b].map strC).flatten[1]?=some (.str b):=rfl
  by_cases hab:a=b
  ·rw [if_pos ⟨rfl,by simpa using hab⟩]
   simp only [z2,seval,q9,sk,hlen,k2,ia,ib,at0,at1,decide_eq_true hab,zipO,killT,AOp.kd,zop,tks,sameStep,sd_or,fn_pure (f:=34) rfl,ex_call,hfz,h42,namesD_e2,must_ok,nb]
   exact Res22.bad (by decide) (hI.tmp (Nat.le_add_right _ _) (by simp [ex_val]) (by simp [ex_val]) (by simp [ex_val])) (fun k hk=>by rcases hk with rfl|rfl|rfl <;> simp [ex_val])
  ·rw [if_neg (fun h=>hab (by simpa using h.2))]
   by_cases h0:y=0
   ·subst h0
    simp only [z2,seval,q9,sk,hlen,k2,ia,ib,at0,at1,decide_eq_false hab,zipO,killT,AOp.kd,zop,tks,sameStep,sd_or,fn_pure (f:=34) rfl,ex_call,hfz,h42,namesD_e2,must_ok,nb]
    exact Res22.go (hI.tmp (Nat.le_add_right _ _) (by simp [ex_val]) (by simp [ex_val]) (by simp [ex_val])) (fun k hk=>by rcases hk with rfl|rfl|rfl <;> simp [ex_val])
   ·have hm:∀ s c,fn (n+12) 4096 (.fn 30) [.int .i64 0,.int .i64 y] s c = .ok (.pan (panE 0 y)) s c:=fun s c=>by rw [must_ok,if_neg h0]
    simp only [z2,seval,q9,sk,hlen,k2,ia,ib,at0,at1,decide_eq_false hab,zipO,killT,AOp.kd,zop,tks,sameStep,sd_or,fn_pure (f:=34) rfl,ex_call,hfz,h42,namesD_e2,hm,nb]
    exact Res22.bad h0 (hI.tmp (Nat.le_add_right _ _) (by simp [ex_val]) (by simp [ex_val]) (by simp [ex_val])) (fun k hk=>by rcases hk with rfl|rfl|rfl <;> simp [ex_val])
end
end Zv
namespace Zv
open Go
noncomputable section
theorem Res22.of {d e v f:D} {L:List (List UInt8)} {t t0:Tm} {r:R} {er:Int} (h:Res22 d e v f L t r er) (hk:∀ k,k=53∨k=54∨k=55→tget t k=tget t0 k):Res22 d e v f L t0 r er:=by
 obtain ⟨t',s',c',h1,h2,h3⟩:=h
 exact ⟨t',s',c',h1,h2,fun k hk'=>(h3 k hk').trans (hk k hk')⟩
theorem X22_ok (n:Nat) {d e v f:D} {L:List (List UInt8)} {x:Fd} (hx:FdOk x) {t:Tm} {s:St} {c k:Nat} (hI:I22 d e v f L t s c) (q9:tget t 9 = .ptr k 0) (sk:sget s k=some (.fix 44 [.str x.name,x.pd,x.bd])) :
  Res22 d e v f L t (zC X22 (cxn (n+12)) (fn (n+12) 4096) KK ⟨t,s,c,D22,none⟩) (defE x):=by
 have hlen:=hx.p.len
 have hpl:=hx.pl
 have main:x.ps.length=1∨x.ps.length=2→∀ t1:Tm,(∀ k,k=1∨k=2∨k=5∨k=9∨k=53∨k=54∨k=55→tget t1 k=tget t k)→tget t1 75=x.pd→tget t1 76 = .int .i64 (x.ps.length:Nat)→tget t1 77 = .int .i64 0 →
   Res22 d e v f L t (zbind (zblkR 8 (zloop KK (zC (.seq (.reg none [⟨(some 78),(.bin .lss (.t 77) (.t 76)),none⟩]) (.seq (.cond (.t 78) .skip (.exit 8)) (.seq (.block 10 (.seq (.reg none [⟨(some 79),(.iaS 1 (.t 75) (.t 77)),none⟩,⟨(some 80),(.ld none (.t 79)),none⟩,⟨(some 11),(.mv (.t 80)),none⟩]) (.seq (.reg none [⟨(some 81),(.mv (.t 11)),none⟩,⟨(some 82),(.call 32 [(.t 81)]),none⟩,⟨(some 83),(.un .not (.t 82)),none⟩]) (.cond (.t 83) (.reg none [⟨(some 84),(.call 30 [(.c (.int .i64 0)),(.c (.int .i64 6))]),none⟩]) .skip)))) (.reg none [⟨(some 85),(.bin .add (.t 77) (.c (.int .i64 1))),none⟩,⟨(some 77),(.mv (.t 85)),none⟩])))) (cxn (n+12)) (fn (n+12) 4096) KK) ⟨t1,s,c,D22,none⟩)) (zC Xc22 (cxn (n+12)) (fn (n+12) 4096) KK))
    (if x.ps.all isName=true then (if x.ps.length=2∧x.ps.getD 0 []=x.ps.getD 1 [] then 8 else exE x.body) else 6):=by
  intro hl t1 ht q75 q76 q77
  generalize hz:zloop KK _ _=rl
  refine zrange rl hz x.ps.length (KK_lt hpl) hpl (fun i t' s' c'=>s'=s∧c'=c∧tget t' 75=x.pd∧(∀ k,k=1∨k=2∨k=5∨k=9∨k=53∨k=54∨k=55→tget t' k=tget t k)∧∀ j,j<i→∀ h:j<x.ps.length,isName x.ps[j]=true) (by decide) q77 q76 ⟨rfl,rfl,q75,ht,nofun⟩ ?_ ?_
  ·rintro i t' s' c' hlt ⟨rfl,rfl,q75,hk,hn⟩ hti htn
   have h61:=c61 (n+3) x.ps[i] (hx.pn _ (List.getElem_mem hlt))
   cases hb:isName x.ps[i]
   ·have ha:¬ x.ps.all isName=true:=fun h=>by
     have:=List.all_eq_true.1 h _ (List.getElem_mem hlt)
     rw [hb] at this; cases this
    rw [hb] at h61
    rw [if_neg ha]
    have hm:∀ s c,fn (n+12) 4096 (.fn 30) [.int .i64 0,.int .i64 6] s c = .ok (.pan (panE 0 6)) s c:=fun s c=>by rw [must_ok,if_neg (by decide)]
    simp only [z2,seval,q75,hti,htn,hx.p.ia1 hlt,hx.p.at1 hlt,strC,fn_pure (f:=32) rfl,ex_call,h61,hm,nb]
    exact Res22.bad (by decide) (hI.tmp (Nat.le_refl _) (by simp [ex_val,hk]) (by simp [ex_val,hk]) (by simp [ex_val,hk])) fun k h=>by rcases h with rfl|rfl|rfl <;> simp [ex_val,hk]
   ·rw [hb] at h61
    simp only [z2,seval,q75,hti,htn,hx.p.ia1 hlt,hx.p.at1 hlt,strC,fn_pure (f:=32) rfl,ex_call,h61,nb]
    refine ⟨trivial,trivial,trivial,.inr (.inr trivial),nofun,nofun,trivial,trivial,trivial,fun k h => ?_,fun j hj h => ?_⟩
    ·rcases h with rfl|rfl|rfl|rfl|rfl|rfl|rfl <;> simp [ex_val,hk]
    ·rcases Nat.lt_succ_iff_lt_or_eq.1 hj with h'|rfl
     ·exact hn j h' h
     ·exact hb
  ·rintro t' s' c' ⟨rfl,rfl,q75,hk,hn⟩ hti htn
   have ha:x.ps.all isName=true:=List.all_eq_true.2 fun y hy=>by
    obtain ⟨j,hj,rfl⟩:=List.getElem_of_mem hy
    exact hn j hj hj
   rw [if_pos ha]
   simp only [ex_code,↓reduceIte]
   refine (Xc_ok n hx hl (t:=tput t' 78 (.bool false)) (hI.tmp (Nat.le_refl _) (by simp [ex_val,hk]) (by simp [ex_val,hk]) (by simp [ex_val,hk])) (k:=k) (by simp [ex_val,hk,q9]) sk).of fun k h => ?_
   rcases h with rfl|rfl|rfl <;> simp [ex_val,hk]
 unfold X22 defE
 by_cases hl:x.ps.length=1∨x.ps.length=2
 ·rw [if_pos hl]
  rcases hl with hl|hl
  ·have k1:decide ((x.ps.length:Int)=1)=true:=dT (by omega)
   simp only [z2,seval,q9,sk,hlen,k1,nb]
   exact main (.inl hl) _ (fun k h=>by rcases h with rfl|rfl|rfl|rfl|rfl|rfl|rfl <;> simp [ex_val]) (by simp [ex_val]) (by simp [ex_val]) (by simp [ex_val])
  ·have k1:decide ((x.ps.length:Int)=1)=false:=dF (by omega)
   have k2:decide ((x.ps.length:Int)=2)=true:=dT (by omega)
   simp only [z2,seval,q9,sk,hlen,k1,k2,nb]
   exact main (.inr hl) _ (fun k h=>by rcases h with rfl|rfl|rfl|rfl|rfl|rfl|rfl <;> simp [ex_val]) (by simp [ex_val]) (by simp [ex_val]) (by simp [ex_val])
 ·rw [if_neg hl]
  have k1:decide ((x.ps.length:Int)=1)=false:=dF (by omega)
  have k2:decide ((x.ps.length:Int)=2)=false:=dF (by omega)
  have hm:∀ s c,fn (n+12) 4096 (.fn 30) [.int .i64 0,.int .i64 23] s c = .ok (.pan (panE 0 23)) s c:=fun s c=>by rw [must_ok,if_neg (by decide)]
  simp only [z2,seval,q9,sk,hlen,k1,k2,hm,nb]
  exact Res22.bad (by decide) (hI.tmp (Nat.le_refl _) (by simp [ex_val]) (by simp [ex_val]) (by simp [ex_val])) fun k h=>by rcases h with rfl|rfl|rfl <;> simp [ex_val]
end
end Zv
namespace Zv
open Go
noncomputable section
theorem W22_ok (n:Nat) {d e v f:D} {vs:List Vr} {fs:List Fd} (hE:EnvOk vs fs v f) {t:Tm} {s:St} {c:Nat} (hI:I22 d e v f (vs.map Vr.name) t s c) :
  Out22 (n+12) (zC W22 (cxn (n+12)) (fn (n+12) 4096) KK ⟨t,s,c,D22,none⟩) (scan (dfP vs fs) 0 fs.length 0):=by
 rw [W22_eq]
 simp only [z2,seval,hI.q1,hI.s0,hE.f.len]
 generalize hz:zloop KK _ _=rl
 refine zrange rl hz fs.length (KK_lt hE.fl) hE.fl (fun i t s c=>I22 d e v f (vs.map Vr.name++(fs.take i).map Fd.name) t s c∧tget t 53=f∧∀ j,j<i→dfP vs fs j=none) (by decide) (by simp [ex_val]) (by simp [ex_val])
  ⟨by rw [List.take_zero,List.map_nil,List.append_nil]; exact hI.tmp (Nat.le_refl _) (by simp [ex_val]) (by simp [ex_val]) (by simp [ex_val]),by simp [ex_val],nofun⟩ ?_ ?_
 ·clear hI hz
  rintro i t s c hlt ⟨hI,q53,hn⟩ hti htn
  have hrow:=hE.f.row hlt
  have hok:=hE.fo _ (List.getElem_mem hlt)
  have hfr:=fun s c h4 h3=>fresh_ok (n+3) 4094 (nm:=fs[i].name) hok.nm (L:=vs.map Vr.name++(fs.take i).map Fd.name) (s:=s) (c:=c) h4 h3
  have hgl:fs[i]?=some fs[i]:=List.getElem?_eq_getElem hlt
  have hst:=take_map_succ Fd.name hlt
  have hP:dfP vs fs i=if nameE fs[i].name (vs.map Vr.name++(fs.take i).map Fd.name)=0 then (if defE fs[i]=0 then none else some (defE fs[i])) else some (nameE fs[i].name (vs.map Vr.name++(fs.take i).map Fd.name)):=by rw [dfP,hgl]
  have htk:∀ a b c:D,takeAt [a,b,c] 0 (some 3)=some (.agg [a,b,c]):=fun _ _ _=>rfl
  have hpn:=hok.p.nag
  have hbn:=hok.b.nag
  rw [hst,←List.append_assoc]
  generalize hN:nameE fs[i].name (vs.map Vr.name++(fs.take i).map Fd.name)=en at *
  generalize hL:vs.map Vr.name++(fs.take i).map Fd.name=L at *
  have hh:=hI.hc
  have f0:(0=c)=False:=eq_false (by omega)
  have f1:(1=c)=False:=eq_false (by omega)
  have f2:(2=c)=False:=eq_false (by omega)
  have f3:(3=c)=False:=eq_false (by omega)
  have f4:(4=c)=False:=eq_false (by omega)
  have g3:(c=3)=False:=eq_false (by omega)
  by_cases h0:en=0
  ·subst h0
   simp only [if_true] at hfr hP
   simp only [z2,seval,hI.q1,hI.q2,hI.q5,q53,hti,htn,hE.f.ia hlt,hrow,fdC,hI.s0,f0,f1,f2,f3,f4,g3,hI.s3,hI.s4,hpn,hbn,ex_dfr,List.nil_append,List.append_nil,List.cons_append,hfr,htk,nb]
   generalize hT:tput (tput _ 61 _) 62 _=T
   obtain ⟨t',s',c',r1,r2,r3⟩:=X22_ok n hok (t:=T) (hI.next fs[i].name (.fix 44 [.str [],.nils,.nils]) (.fix 44 [.str fs[i].name,fs[i].pd,fs[i].bd]) (t':=T) (by rw [←hT]; simp [ex_val]) (by rw [←hT]; simp [ex_val]) (by rw [←hT]; simp [ex_val])) (k:=c) (by rw [←hT]; simp [ex_val]) (by simp only [ex_val]; rw [if_neg (by omega)]; simp)
   rw [r1]
   have k53:tget t' 53=f:=by rw [r3 53 (.inl rfl),←hT]; simp [ex_val,q53]
   have k54:tget t' 54 = .int .i64 (fs.length:Nat):=by rw [r3 54 (.inr (.inl rfl)),←hT]; simp [ex_val,htn]
   have k55:tget t' 55 = .int .i64 (i:Nat):=by rw [r3 55 (.inr (.inr rfl)),←hT]; simp [ex_val,hti]
   by_cases h1:defE fs[i]=0
   ·rw [if_pos h1] at hP ⊢
    simp only [ex_code,↓reduceIte,go1]
    exact ⟨trivial,trivial,k55,.inr (.inr k54),nofun,nofun,r2.tmp (Nat.le_refl _) (by simp [ex_val]) (by simp [ex_val]) (by simp [ex_val]),by simp [ex_val,k53],none_step hn hP⟩
   ·rw [if_neg h1] at hP ⊢
    simp only [ex_code,↓reduceIte,go1]
    rw [scan_at hlt hP hn]
    exact r2.pan (n+12) _ rfl rfl rfl (Nat.le_refl _) r2.hf
  ·simp only [if_neg h0] at hfr hP
   simp only [z2,seval,hI.q1,hI.q2,hI.q5,q53,hti,htn,hE.f.ia hlt,hrow,fdC,hI.s0,f0,f1,f2,f3,f4,g3,hI.s3,hI.s4,hpn,hbn,ex_dfr,List.nil_append,List.append_nil,List.cons_append,hfr,htk,nb]
   rw [scan_at hlt hP hn]
   exact hI.pan (n+12) en (by simp [ex_val]) (by simp [ex_val,f1]) (by simp [ex_val,f2]) (Nat.le_succ _) fun m hm=>by rw [sget_sset,if_neg (by omega),sget_sadd,if_neg (by omega)]; exact hI.hf m (by omega)
 ·rintro t s c ⟨hI,q53,hn⟩ hti htn
  rw [scan_end hn]
  simp only [z2,seval,hI.q2,hI.s1]
  exact end22_ret (n+12) 0 (k:=37) (by simp [ex_val]) (by simp [ex_val,hI.q2])
theorem c22e (n:Nat) {ss:List (List UInt8)} {us:List Nat} {d e v f:D} {vs:List Vr} {fs:List Fd} (hd:Sl 1 strC ss d) (he:Sl 1 u8C us e) (hu:Bytes8 us) (hs:Small ss) {x er:Int} (hC:CHK ss us=e2 x er) (h0:er≠0) (hE:EnvOk vs fs v f):cl (n+12) 17 [.agg [d,e,v,f]]=some (.int .i64 er,true):=by
 rw [cl_run (A:=A17) rfl (n+12) _ rfl,show A17.body=B17 from rfl,B22_eq]
 have h59:=c59 (n+6) hd he hu hs
 rw [hC] at h59
 have htk:takeAt [d,e,v,f] 0 (some 2)=some (.agg [d,e]):=rfl
 have hm:∀ s c,fn (n+12) 4096 (.fn 30) [.int .i64 0,.int .i64 er] s c = .ok (.pan (panE 0 er)) s c:=fun s c=>by rw [must_ok,if_neg h0]
 simp only [z2,seval,hd.nag,he.nag,hE.v.nag,hE.f.nag,ex_dfr,htk,fn_pure (f:=29) rfl,ex_call,hd.fz,he.fz,h59,namesD_e2,hm]
 exact end22_pan (n+12) er er 0 (k:=37) (k':=4) (by simp [ex_val]) (by simp [ex_val]) (fun m hm=>by simp only [ex_val,sget_st0]; rw [if_neg (by omega),if_neg (by omega),if_neg (by omega),if_neg (by omega),if_neg (by omega)]) (by decide) (by simp [ex_val])
theorem c22 (n:Nat) {ss:List (List UInt8)} {us:List Nat} {d e v f:D} {vs:List Vr} {fs:List Fd} (hd:Sl 1 strC ss d) (he:Sl 1 u8C us e) (hu:Bytes8 us) (hs:Small ss) (hC:CHK ss us=e2 0 0) (hE:EnvOk vs fs v f):cl (n+12) 17 [.agg [d,e,v,f]]=some (.int .i64 (envE us vs fs),true):=by
 rw [cl_run (A:=A17) rfl (n+12) _ rfl,show A17.body=B17 from rfl,B22_eq]
 have h59:=c59 (n+6) hd he hu hs
 rw [hC] at h59
 have htk:takeAt [d,e,v,f] 0 (some 2)=some (.agg [d,e]):=rfl
 unfold envE
 by_cases h32:32<vs.length
 ·have k1:decide ((32:Int)<vs.length)=true:=dT (by omega)
  rw [if_pos (.inl h32)]
  simp only [z2,seval,hd.nag,he.nag,hE.v.nag,hE.f.nag,hE.v.len,hE.f.len,k1,ex_dfr,htk,fn_pure (f:=29) rfl,ex_call,hd.fz,he.fz,h59,namesD_e2,must_ok,nb]
  exact end22_ret (n+12) 3 (k:=37) (by simp [ex_val]) (by simp [ex_val])
 have k1:decide ((32:Int)<vs.length)=false:=dF (by omega)
 by_cases h16:16<fs.length
 ·have k2:decide ((16:Int)<fs.length)=true:=dT (by omega)
  rw [if_pos (.inr h16)]
  simp only [z2,seval,hd.nag,he.nag,hE.v.nag,hE.f.nag,hE.v.len,hE.f.len,k1,k2,ex_dfr,htk,fn_pure (f:=29) rfl,ex_call,hd.fz,he.fz,h59,namesD_e2,must_ok,nb]
  exact end22_ret (n+12) 3 (k:=37) (by simp [ex_val]) (by simp [ex_val])
 have k2:decide ((16:Int)<fs.length)=false:=dF (by omega)
 rw [if_neg (by omega)]
 simp only [z2,seval,hd.nag,he.nag,hE.v.nag,hE.f.nag,hE.v.len,hE.f.len,k1,k2,ex_dfr,htk,fn_pure (f:=29) rfl,ex_call,hd.fz,he.fz,h59,namesD_e2,must_ok,List.map_cons,List.map_nil,show D.nilm.cells?=some [.nilm] from rfl,show isAg (.mp 3)=false from rfl,show setAt [D.nilm] 0 [D.mp 3]=[.mp 3] from rfl,nb]
 refine U22_ok n hd he hu hs hC hE (fun h=>W22_ok n hE h) ⟨?_,?_,?_,?_,?_,by decide,fun m hm=>by
  have e:∀ k,k<5→(m=k)=False:=fun k hk=>eq_false (by omega)
  simp only [ex_val,sget_st0,e 0 (by decide),e 1 (by decide),e 2 (by decide),e 3 (by decide),e 4 (by decide),if_false],?_,?_,?_⟩
 all_goals simp [ex_val]
 all_goals rfl
end
end Zv
