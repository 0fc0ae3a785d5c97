/- What functions come to: the fault of a node, by the document. Conditions: none. -/
import Derived.Test.YtoefcncofakjkaaGreatDoorCA
import Derived.Test.YtoefcncofakjkaaGreatDoorNC
set_option linter.unusedVariables false
set_option linter.unusedSimpArgs false
set_option linter.unnecessarySimpa false
set_option maxRecDepth 100000
namespace Zv
open Go Ab
noncomputable section
def W1:AC:=(s (r [f 6 0 1,l 7 6,d 8 .lss 7 (i 1),m 9 8,n 10 9 (.fa 0 (.t 1)),n 11 9 (.ld none (.t 10)),n 12 9 (.bin .gtr (.t 11) (.c (i 6))),u 13 (.pick (.t 9) (.c (.bool true)) (.t 12)),m 14 13,n 15 14 (.ld (some 7) (.t 1)),n 16 14 (.call 175 [(.t 15)]),u 17 (.pick (.t 14) (.c (.bool true)) (.t 16))]) (.cond (.t 17) (s (r [c 2 (i 2)]) .ret) .skip))
def W2:AC:=(s (r [f 18 6 1,l 19 18,d 20 .lss 19 (i 0),m 21 20,n 22 21 (.fa 6 (.t 1)),n 23 21 (.ld none (.t 22)),n 24 21 (.bin .gtr (.t 23) (.c (i 1000000000))),u 25 (.pick (.t 21) (.c (.bool true)) (.t 24))]) (.cond (.t 25) (s (r [c 2 (i 7)]) .ret) .skip))
def W3:AC:=(s (r [m 29 3,d 30 .lss 29 (i 0)]) (.cond (.t 30) (s (r [c 2 (i 6)]) .ret) .skip))
def W4:AC:=(s (r [m 31 3,d 32 .gtr 31 (i 400),m 33 32,n 34 33 (.fa 0 (.t 1)),n 35 33 (.ld none (.t 34)),n 36 33 (.bin .eql (.t 35) (.c (i 3))),mn 37 36 33,y 38 37 (.fa 2 (.t 1)),y 39 37 (.ld none (.t 38)),y 40 37 (.bin .geq (.t 39) (.c (i 400))),n 41 33 (.pick (.t 37) (.t 40) (.c (.bool false))),u 42 (.pick (.t 33) (.c (.bool true)) (.t 41))]) (.cond (.t 42) (s (r [c 2 (i 3)]) .ret) .skip))
def W5:AC:=(s (r [f 49 0 1,l 50 49,d 51 .eql 50 (i 3),m 52 51,y 53 52 (.fa 2 (.t 1)),y 54 52 (.ld none (.t 53)),y 55 52 (.bin .lss (.t 54) (.c (i 0))),u 56 (.pick (.t 52) (.t 55) (.c (.bool false))),m 57 56,n 58 57 (.fa 0 (.t 1)),n 59 57 (.ld none (.t 58)),n 60 57 (.bin .eql (.t 59) (.c (i 5))),mn 61 60 57,y 62 61 (.fa 2 (.t 1)),y 63 61 (.ld none (.t 62)),my 64 4 61,y 65 61 (.bin .neq (.t 63) (.t 64)),n 66 57 (.pick (.t 61) (.t 65) (.c (.bool false))),u 67 (.pick (.t 57) (.c (.bool true)) (.t 66)),m 68 67,n 69 68 (.fa 0 (.t 1)),n 70 68 (.ld none (.t 69)),n 71 68 (.bin .eql (.t 70) (.c (i 6))),mn 72 71 68,y 73 72 (.fa 2 (.t 1)),y 74 72 (.ld none (.t 73)),y 75 72 (.bin .neq (.t 74) (.c (i 1))),n 76 68 (.pick (.t 72) (.t 75) (.c (.bool false))),mn 77 76 68,y 78 77 (.fa 2 (.t 1)),y 79 77 (.ld none (.t 78)),y 80 77 (.bin .neq (.t 79) (.c (i 2))),n 81 68 (.pick (.t 77) (.t 80) (.c (.bool false))),u 82 (.pick (.t 68) (.c (.bool true)) (.t 81))]) (.cond (.t 82) (s (r [c 2 (i 23)]) .ret) .skip))
def W6:AC:=(s (r [f 83 0 1,l 84 83,d 85 .eql 84 (i 4),m 86 85,n 87 86 (.fa 0 (.t 1)),n 88 86 (.ld none (.t 87)),n 89 86 (.bin .eql (.t 88) (.c (i 6))),u 90 (.pick (.t 86) (.c (.bool true)) (.t 89)),m 91 90,y 92 91 (.fa 3 (.t 1)),y 93 91 (.ld none (.t 92)),y 94 91 (.call 65 [(.t 93)]),y 95 91 (.un .not (.t 94)),u 96 (.pick (.t 91) (.t 95) (.c (.bool false)))]) (.cond (.t 96) (s (r [c 2 (i 24)]) .ret) .skip))
theorem B96_eq:B105=(s (r [u 1 (.new 50 (.t 0)),c 2 (i 0)]) (s W1 (s W2 (s (r [f 26 4 1,l 27 26,u 28 (.call 176 [(.t 27)]),m 3 28]) (s W3 (s W4 (s (r [f 44 1 1,l 45 44,u 46 (.call 177 [(.t 45)]),m 43 46,e 47 0 43,e 48 1 43,m 4 47,m 5 48]) (s W5 (s W6 (s (r [c 2 (i 0)]) .ret)))))))))):=rfl
def StW (x:Nd) (st:St) (t:Tm) (cn ar:Option Int):Prop:=sget st 0=some (.fix 50 (nodeC x))∧tget t 1 = .ptr 0 0∧(∀ v,cn=some v→tget t 3 = .int .i64 v)∧(∀ v,ar=some v→tget t 4 = .int .i64 v)
def Stage (W:AC) (n:Nat) (x:Nd) (b:Bool) (e:Int) (cn ar:Option Int):Prop:=∀ {t:Tm} {st:St} {c:Nat},StW x st t cn ar→∃ t',zC W (cxn (n+5)) (fn (n+5) 4096) KK ⟨t,st,c,[],none⟩ = .ok (bif b then .ret else .normal) ⟨t',st,c,[],none⟩∧(b=true→tget t' 2 = .int .i64 e)∧StW x st t' cn ar
theorem W1_ok (n:Nat) (x:Nd):Stage W1 n x (decide (x.kind<1)||(decide (6<x.kind)||surB x)) 2 none none:=fun {t st c} h=>by
 obtain ⟨s0,q1,q3,q4⟩:=h
 have s00:=s0
 unfold nodeC at s0
 have h145:=c145 (n+3) x
 have htk:takeAt [.int .i64 x.kind,.int .i64 x.prim,.int .i64 x.kids,.str x.name,.str x.text,.int .i64 x.n,.int .i64 x.site] 0 (some 7)=some (.agg (nodeC x)):=rfl
 have hfz:[D.agg (nodeC x)].mapM (frz false 20 st)=some [D.agg (nodeC x)]:=rfl
 simp only [W1,Ab.abq]
 cases h1:decide (x.kind<1)
 ·cases h2:decide (6<x.kind)
  ·cases h3:surB x
   ·simp only [z2,↓reduceIte,Nat.reduceEqDiff,Nat.reduceAdd,Nat.reduceLeDiff,reduceCtorEq,s0,q1,Int.reduceEq,Int.reduceLT,Int.reduceLE,ne_eq,not_true_eq_false,not_false_eq_true,decide_true,decide_false,decide_not,Bool.not_true,Bool.not_false,h1,h2,h3,htk,fn_pure (f:=175) rfl,ex_call,hfz,h145]
    exact ⟨_,rfl,nofun,s00,by simp [ex_val,q1],by simpa [ex_val] using q3,by simpa [ex_val] using q4⟩
   ·simp only [z2,↓reduceIte,Nat.reduceEqDiff,Nat.reduceAdd,Nat.reduceLeDiff,reduceCtorEq,s0,q1,Int.reduceEq,Int.reduceLT,Int.reduceLE,ne_eq,not_true_eq_false,not_false_eq_true,decide_true,decide_false,decide_not,Bool.not_true,Bool.not_false,h1,h2,h3,htk,fn_pure (f:=175) rfl,ex_call,hfz,h145]
    exact ⟨_,rfl,fun _=>by simp [ex_val],s00,by simp [ex_val,q1],by simpa [ex_val] using q3,by simpa [ex_val] using q4⟩
  ·simp only [z0,↓reduceIte,Nat.reduceEqDiff,Nat.reduceAdd,Nat.reduceLeDiff,reduceCtorEq,s0,q1,Int.reduceEq,Int.reduceLT,Int.reduceLE,ne_eq,not_true_eq_false,not_false_eq_true,decide_true,decide_false,decide_not,Bool.not_true,Bool.not_false,h1,h2]
   exact ⟨_,rfl,fun _=>by simp [ex_val],s00,by simp [ex_val,q1],by simpa [ex_val] using q3,by simpa [ex_val] using q4⟩
 ·simp only [z0,↓reduceIte,Nat.reduceEqDiff,Nat.reduceAdd,Nat.reduceLeDiff,reduceCtorEq,s0,q1,Int.reduceEq,Int.reduceLT,Int.reduceLE,ne_eq,not_true_eq_false,not_false_eq_true,decide_true,decide_false,decide_not,Bool.not_true,Bool.not_false,h1]
  exact ⟨_,rfl,fun _=>by simp [ex_val],s00,by simp [ex_val,q1],by simpa [ex_val] using q3,by simpa [ex_val] using q4⟩
theorem W2_ok (n:Nat) (x:Nd):Stage W2 n x (decide (x.site<0)||decide (1000000000<x.site)) 7 none none:=fun {t st c} h=>by
 obtain ⟨s0,q1,q3,q4⟩:=h
 have s00:=s0
 unfold nodeC at s0
 simp only [W2,Ab.abq]
 cases h1:decide (x.site<0)
 ·cases h2:decide (1000000000<x.site)
  ·simp only [z0,↓reduceIte,Nat.reduceEqDiff,Nat.reduceAdd,Nat.reduceLeDiff,reduceCtorEq,s0,q1,Int.reduceEq,Int.reduceLT,Int.reduceLE,ne_eq,not_true_eq_false,not_false_eq_true,decide_true,decide_false,decide_not,Bool.not_true,Bool.not_false,h1,h2]
   exact ⟨_,rfl,nofun,s00,by simp [ex_val,q1],by simpa [ex_val] using q3,by simpa [ex_val] using q4⟩
  ·simp only [z0,↓reduceIte,Nat.reduceEqDiff,Nat.reduceAdd,Nat.reduceLeDiff,reduceCtorEq,s0,q1,Int.reduceEq,Int.reduceLT,Int.reduceLE,ne_eq,not_true_eq_false,not_false_eq_true,decide_true,decide_false,decide_not,Bool.not_true,Bool.not_false,h1,h2]
   exact ⟨_,rfl,fun _=>by simp [ex_val],s00,by simp [ex_val,q1],by simpa [ex_val] using q3,by simpa [ex_val] using q4⟩
 ·simp only [z0,↓reduceIte,Nat.reduceEqDiff,Nat.reduceAdd,Nat.reduceLeDiff,reduceCtorEq,s0,q1,Int.reduceEq,Int.reduceLT,Int.reduceLE,ne_eq,not_true_eq_false,not_false_eq_true,decide_true,decide_false,decide_not,Bool.not_true,Bool.not_false,h1]
  exact ⟨_,rfl,fun _=>by simp [ex_val],s00,by simp [ex_val,q1],by simpa [ex_val] using q3,by simpa [ex_val] using q4⟩
theorem W3_ok (n:Nat) (x:Nd) {cn:Int}:Stage W3 n x (decide (cn<0)) 6 (some cn) none:=fun {t st c} h=>by
 obtain ⟨s0,q1,q3,q4⟩:=h
 have s00:=s0
 unfold nodeC at s0
 have q3':tget t 3 = .int .i64 cn:=q3 cn rfl
 simp only [W3,Ab.abq]
 cases h1:decide (cn<0)
 ·simp only [z0,↓reduceIte,Nat.reduceEqDiff,Nat.reduceAdd,Nat.reduceLeDiff,reduceCtorEq,s0,q1,Int.reduceEq,Int.reduceLT,Int.reduceLE,ne_eq,not_true_eq_false,not_false_eq_true,decide_true,decide_false,decide_not,Bool.not_true,Bool.not_false,q3',h1]
  exact ⟨_,rfl,nofun,s00,by simp [ex_val,q1],by simpa [ex_val] using q3,by simpa [ex_val] using q4⟩
 ·simp only [z0,↓reduceIte,Nat.reduceEqDiff,Nat.reduceAdd,Nat.reduceLeDiff,reduceCtorEq,s0,q1,Int.reduceEq,Int.reduceLT,Int.reduceLE,ne_eq,not_true_eq_false,not_false_eq_true,decide_true,decide_false,decide_not,Bool.not_true,Bool.not_false,q3',h1]
  exact ⟨_,rfl,fun _=>by simp [ex_val],s00,by simp [ex_val,q1],by simpa [ex_val] using q3,by simpa [ex_val] using q4⟩
theorem W4_ok (n:Nat) (x:Nd) {cn:Int}:Stage W4 n x (decide (400<cn)||(decide (x.kind=3)&&decide (400≤x.kids))) 3 (some cn) none:=fun {t st c} h=>by
 obtain ⟨s0,q1,q3,q4⟩:=h
 have s00:=s0
 unfold nodeC at s0
 have q3':tget t 3 = .int .i64 cn:=q3 cn rfl
 simp only [W4,Ab.abq]
 cases h1:decide (400<cn)
 ·cases h2:decide (x.kind=3)
  ·simp only [z0,↓reduceIte,Nat.reduceEqDiff,Nat.reduceAdd,Nat.reduceLeDiff,reduceCtorEq,s0,q1,Int.reduceEq,Int.reduceLT,Int.reduceLE,ne_eq,not_true_eq_false,not_false_eq_true,decide_true,decide_false,decide_not,Bool.not_true,Bool.not_false,q3',h1,h2]
   exact ⟨_,rfl,nofun,s00,by simp [ex_val,q1],by simpa [ex_val] using q3,by simpa [ex_val] using q4⟩
  ·cases h3:decide (400≤x.kids)
   ·simp only [z0,↓reduceIte,Nat.reduceEqDiff,Nat.reduceAdd,Nat.reduceLeDiff,reduceCtorEq,s0,q1,Int.reduceEq,Int.reduceLT,Int.reduceLE,ne_eq,not_true_eq_false,not_false_eq_true,decide_true,decide_false,decide_not,Bool.not_true,Bool.not_false,q3',h1,h2,h3]
    exact ⟨_,rfl,nofun,s00,by simp [ex_val,q1],by simpa [ex_val] using q3,by simpa [ex_val] using q4⟩
   ·simp only [z0,↓reduceIte,Nat.reduceEqDiff,Nat.reduceAdd,Nat.reduceLeDiff,reduceCtorEq,s0,q1,Int.reduceEq,Int.reduceLT,Int.reduceLE,ne_eq,not_true_eq_false,not_false_eq_true,decide_true,decide_false,decide_not,Bool.not_true,Bool.not_false,q3',h1,h2,h3]
    exact ⟨_,rfl,fun _=>by simp [ex_val],s00,by simp [ex_val,q1],by simpa [ex_val] using q3,by simpa [ex_val] using q4⟩
 ·simp only [z0,↓reduceIte,Nat.reduceEqDiff,Nat.reduceAdd,Nat.reduceLeDiff,reduceCtorEq,s0,q1,Int.reduceEq,Int.reduceLT,Int.reduceLE,ne_eq,not_true_eq_false,not_false_eq_true,decide_true,decide_false,decide_not,Bool.not_true,Bool.not_false,q3',h1]
  exact ⟨_,rfl,fun _=>by simp [ex_val],s00,by simp [ex_val,q1],by simpa [ex_val] using q3,by simpa [ex_val] using q4⟩
set_option maxHeartbeats 4000000 in
theorem W5_ok (n:Nat) (x:Nd) {ar:Int}:Stage W5 n x ((decide (x.kind=3)&&decide (x.kids<0))||((decide (x.kind=5) && !decide (x.kids=ar))||(decide (x.kind=6)&&(!decide (x.kids=1) && !decide (x.kids=2))))) 23 none (some ar):=fun {t st c} h=>by
 obtain ⟨s0,q1,q3,q4⟩:=h
 have s00:=s0
 unfold nodeC at s0
 have q4':tget t 4 = .int .i64 ar:=q4 ar rfl
 simp only [W5,Ab.abq]
 by_cases k3:x.kind=3
 ·rw [k3]
  rw [k3] at s0
  cases h1:decide (x.kids<0)
  ·simp (maxSteps:=1000000) only [start_eq,argTm,Zv.ex,exb,Ab.abq,↓reduceIte,Nat.reduceEqDiff,Nat.reduceAdd,Nat.reduceLeDiff,reduceCtorEq,beq_self_eq_true,s0,q1,Int.reduceEq,Int.reduceLT,Int.reduceLE,ne_eq,not_true_eq_false,not_false_eq_true,decide_true,decide_false,decide_not,Bool.not_true,Bool.not_false,q4',h1]
   exact ⟨_,rfl,nofun,s00,by simp [ex_val,q1],by simpa [ex_val] using q3,by simpa [ex_val] using q4⟩
  ·simp (maxSteps:=1000000) only [start_eq,argTm,Zv.ex,exb,Ab.abq,↓reduceIte,Nat.reduceEqDiff,Nat.reduceAdd,Nat.reduceLeDiff,reduceCtorEq,beq_self_eq_true,s0,q1,Int.reduceEq,Int.reduceLT,Int.reduceLE,ne_eq,not_true_eq_false,not_false_eq_true,decide_true,decide_false,decide_not,Bool.not_true,Bool.not_false,q4',h1]
   exact ⟨_,rfl,fun _=>by simp [ex_val],s00,by simp [ex_val,q1],by simpa [ex_val] using q3,by simpa [ex_val] using q4⟩
 by_cases k5:x.kind=5
 ·rw [k5]
  rw [k5] at s0
  cases h1:decide (x.kids=ar)
  ·simp (maxSteps:=1000000) only [start_eq,argTm,Zv.ex,exb,Ab.abq,↓reduceIte,Nat.reduceEqDiff,Nat.reduceAdd,Nat.reduceLeDiff,reduceCtorEq,beq_self_eq_true,s0,q1,Int.reduceEq,Int.reduceLT,Int.reduceLE,ne_eq,not_true_eq_false,not_false_eq_true,decide_true,decide_false,decide_not,Bool.not_true,Bool.not_false,q4',h1]
   exact ⟨_,rfl,fun _=>by simp [ex_val],s00,by simp [ex_val,q1],by simpa [ex_val] using q3,by simpa [ex_val] using q4⟩
  ·simp (maxSteps:=1000000) only [start_eq,argTm,Zv.ex,exb,Ab.abq,↓reduceIte,Nat.reduceEqDiff,Nat.reduceAdd,Nat.reduceLeDiff,reduceCtorEq,beq_self_eq_true,s0,q1,Int.reduceEq,Int.reduceLT,Int.reduceLE,ne_eq,not_true_eq_false,not_false_eq_true,decide_true,decide_false,decide_not,Bool.not_true,Bool.not_false,q4',h1]
   exact ⟨_,rfl,nofun,s00,by simp [ex_val,q1],by simpa [ex_val] using q3,by simpa [ex_val] using q4⟩
 by_cases k6:x.kind=6
 ·rw [k6]
  rw [k6] at s0
  cases h1:decide (x.kids=1)
  ·cases h2:decide (x.kids=2)
   ·simp (maxSteps:=1000000) only [start_eq,argTm,Zv.ex,exb,Ab.abq,↓reduceIte,Nat.reduceEqDiff,Nat.reduceAdd,Nat.reduceLeDiff,reduceCtorEq,beq_self_eq_true,s0,q1,Int.reduceEq,Int.reduceLT,Int.reduceLE,ne_eq,not_true_eq_false,not_false_eq_true,decide_true,decide_false,decide_not,Bool.not_true,Bool.not_false,q4',h1,h2]
    exact ⟨_,rfl,fun _=>by simp [ex_val],s00,by simp [ex_val,q1],by simpa [ex_val] using q3,by simpa [ex_val] using q4⟩
   ·simp (maxSteps:=1000000) only [start_eq,argTm,Zv.ex,exb,Ab.abq,↓reduceIte,Nat.reduceEqDiff,Nat.reduceAdd,Nat.reduceLeDiff,reduceCtorEq,beq_self_eq_true,s0,q1,Int.reduceEq,Int.reduceLT,Int.reduceLE,ne_eq,not_true_eq_false,not_false_eq_true,decide_true,decide_false,decide_not,Bool.not_true,Bool.not_false,q4',h1,h2]
    exact ⟨_,rfl,nofun,s00,by simp [ex_val,q1],by simpa [ex_val] using q3,by simpa [ex_val] using q4⟩
  ·simp (maxSteps:=1000000) only [start_eq,argTm,Zv.ex,exb,Ab.abq,↓reduceIte,Nat.reduceEqDiff,Nat.reduceAdd,Nat.reduceLeDiff,reduceCtorEq,beq_self_eq_true,s0,q1,Int.reduceEq,Int.reduceLT,Int.reduceLE,ne_eq,not_true_eq_false,not_false_eq_true,decide_true,decide_false,decide_not,Bool.not_true,Bool.not_false,q4',h1]
   exact ⟨_,rfl,nofun,s00,by simp [ex_val,q1],by simpa [ex_val] using q3,by simpa [ex_val] using q4⟩
 simp (maxSteps:=1000000) only [start_eq,argTm,Zv.ex,exb,Ab.abq,↓reduceIte,Nat.reduceEqDiff,Nat.reduceAdd,Nat.reduceLeDiff,reduceCtorEq,beq_self_eq_true,s0,q1,Int.reduceEq,Int.reduceLT,Int.reduceLE,ne_eq,not_true_eq_false,not_false_eq_true,decide_true,decide_false,decide_not,Bool.not_true,Bool.not_false,q4',decide_eq_false k3,decide_eq_false k5,decide_eq_false k6]
 exact ⟨_,rfl,nofun,s00,by simp [ex_val,q1],by simpa [ex_val] using q3,by simpa [ex_val] using q4⟩
theorem W6_ok (n:Nat) (x:Nd) (hn:x.name.length<9223372036854775807):Stage W6 n x ((decide (x.kind=4)||decide (x.kind=6)) && !isName x.name) 24 none none:=fun {t st c} h=>by
 obtain ⟨s0,q1,q3,q4⟩:=h
 have s00:=s0
 unfold nodeC at s0
 have h112:=c112 (n+1) x.name hn
 simp only [W6,Ab.abq]
 by_cases k4:x.kind=4
 ·rw [k4]
  rw [k4] at s0
  cases h9:isName x.name
  ·simp only [z0,↓reduceIte,Nat.reduceEqDiff,Nat.reduceAdd,Nat.reduceLeDiff,reduceCtorEq,s0,q1,Int.reduceEq,Int.reduceLT,Int.reduceLE,ne_eq,not_true_eq_false,not_false_eq_true,decide_true,decide_false,decide_not,Bool.not_true,Bool.not_false,h9,fn_pure (f:=65) rfl,ex_call,h112]
   exact ⟨_,rfl,fun _=>by simp [ex_val],s00,by simp [ex_val,q1],by simpa [ex_val] using q3,by simpa [ex_val] using q4⟩
  ·simp only [z0,↓reduceIte,Nat.reduceEqDiff,Nat.reduceAdd,Nat.reduceLeDiff,reduceCtorEq,s0,q1,Int.reduceEq,Int.reduceLT,Int.reduceLE,ne_eq,not_true_eq_false,not_false_eq_true,decide_true,decide_false,decide_not,Bool.not_true,Bool.not_false,h9,fn_pure (f:=65) rfl,ex_call,h112]
   exact ⟨_,rfl,nofun,s00,by simp [ex_val,q1],by simpa [ex_val] using q3,by simpa [ex_val] using q4⟩
 by_cases k6:x.kind=6
 ·rw [k6]
  rw [k6] at s0
  cases h9:isName x.name
  ·simp only [z0,↓reduceIte,Nat.reduceEqDiff,Nat.reduceAdd,Nat.reduceLeDiff,reduceCtorEq,s0,q1,Int.reduceEq,Int.reduceLT,Int.reduceLE,ne_eq,not_true_eq_false,not_false_eq_true,decide_true,decide_false,decide_not,Bool.not_true,Bool.not_false,h9,fn_pure (f:=65) rfl,ex_call,h112]
   exact ⟨_,rfl,fun _=>by simp [ex_val],s00,by simp [ex_val,q1],by simpa [ex_val] using q3,by simpa [ex_val] using q4⟩
  ·simp only [z0,↓reduceIte,Nat.reduceEqDiff,Nat.reduceAdd,Nat.reduceLeDiff,reduceCtorEq,s0,q1,Int.reduceEq,Int.reduceLT,Int.reduceLE,ne_eq,not_true_eq_false,not_false_eq_true,decide_true,decide_false,decide_not,Bool.not_true,Bool.not_false,h9,fn_pure (f:=65) rfl,ex_call,h112]
   exact ⟨_,rfl,nofun,s00,by simp [ex_val,q1],by simpa [ex_val] using q3,by simpa [ex_val] using q4⟩
 simp only [z0,↓reduceIte,Nat.reduceEqDiff,Nat.reduceAdd,Nat.reduceLeDiff,reduceCtorEq,s0,q1,Int.reduceEq,Int.reduceLT,Int.reduceLE,ne_eq,not_true_eq_false,not_false_eq_true,decide_true,decide_false,decide_not,Bool.not_true,Bool.not_false,decide_eq_false k4,decide_eq_false k6]
 exact ⟨_,rfl,nofun,s00,by simp [ex_val,q1],by simpa [ex_val] using q3,by simpa [ex_val] using q4⟩
end
end Zv
namespace Zv
open Go
noncomputable section
def arI (p:Int):Int:=match arD p with | .tup [.int _ a,_]=>a|_=>0
theorem arD_form (p:Int):∃ e:Int,arD p=e2 (arI p) e:=by
 rcases ar_cases p with ⟨a,hf,hr,ha⟩|⟨hf,hr⟩
 ·exact ⟨0,by rw [arI,hf]; rfl⟩
 ·exact ⟨2,by rw [arI,hf]; rfl⟩
def wrongI (x:Nd):Int:=
 bif decide (x.kind<1)||(decide (6<x.kind)||surB x) then 2 else
 bif decide (x.site<0)||decide (1000000000<x.site) then 7 else
 bif decide (cntI x.text<0) then 6 else
 bif decide (400<cntI x.text)||(decide (x.kind=3)&&decide (400≤x.kids)) then 3 else
 bif (decide (x.kind=3)&&decide (x.kids<0))||((decide (x.kind=5) && !decide (x.kids=arI x.prim))||(decide (x.kind=6)&&(!decide (x.kids=1) && !decide (x.kids=2)))) then 23 else
 bif (decide (x.kind=4)||decide (x.kind=6)) && !isName x.name then 24 else 0
theorem c96 (n:Nat) (x:Nd) (hn:x.name.length<9223372036854775807) (ht:x.text.length<4294967296):cl (n+6) 105 [.agg (nodeC x)]=some (.int .i64 (wrongI x),true):=by
 rw [cl_run (A:=A105) rfl (n+6) _ rfl,show A105.body=B105 from rfl,B96_eq]
 have hfin:∀ (e:Int) (t:Tm) (st:St) (c:Nat),tget t 2 = .int .i64 e→wrongI x=e→pout (zbody (dfn (n+6) MM) A105 (.ok .ret ⟨t,st,c,[],none⟩))=some (.int .i64 (wrongI x),true):=fun e t st c h he=>by
  simp only [z0,↓reduceIte,Nat.reduceEqDiff,Nat.reduceAdd,Nat.reduceLeDiff,reduceCtorEq,h,he,A105]; rfl
 have hb:∀ (y:AS) (K:AS→R),zbind (.ok .normal y) K=K y:=fun _ _=>rfl
 have hbr:∀ (y:AS) (K:AS→R),zbind (.ok .ret y) K = .ok .ret y:=fun _ _=>rfl
 have hsq:∀ (a b:AC) (cx:Cx) (cl:CL) (k:Nat) (y:AS),zC (.seq a b) cx cl k y=zbind (zC a cx cl k y) (zC b cx cl k):=fun _ _ _ _ _ _=>rfl
 simp only [z0,↓reduceIte,Nat.reduceEqDiff,Nat.reduceAdd,Nat.reduceLeDiff,reduceCtorEq]
 generalize hT:tput _ 2 _=T
 generalize hS:sadd st0 0 _=S
 have h1:StW x S T none none:=⟨by rw [←hS]; simp [ex_val],by rw [←hT]; simp [ex_val],nofun,nofun⟩
 clear hT hS
 obtain ⟨t1,e1,r1,k1⟩:=W1_ok (n+1) x (c:=1) h1
 cases b1:(decide (x.kind<1)||(decide (6<x.kind)||surB x)) <;> rw [b1] at e1 r1
 case true=>rw [e1]; simp only [cond_true,hbr]; exact hfin 2 _ _ _ (r1 rfl) (by rw [wrongI,b1]; rfl)
 rw [e1]; simp only [cond_false,hb,hsq]
 obtain ⟨t2,e2',r2,k2⟩:=W2_ok (n+1) x (c:=1) k1
 cases b2:(decide (x.site<0)||decide (1000000000<x.site)) <;> rw [b2] at e2' r2
 case true=>rw [e2']; simp only [cond_true,hbr]; exact hfin 7 _ _ _ (r2 rfl) (by rw [wrongI,b1,b2]; rfl)
 rw [e2']; simp only [cond_false,hb]
 obtain ⟨s0,q1,_,_⟩:=k2
 have s00:=s0
 unfold nodeC at s0
 simp only [z0,↓reduceIte,Nat.reduceEqDiff,Nat.reduceAdd,Nat.reduceLeDiff,reduceCtorEq,s0,q1,fn_pure (f:=176) rfl,ex_call,c146 n x.text ht]
 generalize hT:tput _ 3 _=T3
 have h3:StW x S T3 (some (cntI x.text)) none:=⟨s00,by rw [←hT]; simp [ex_val,q1],fun v hv=>by cases hv; rw [←hT]; simp [ex_val],nofun⟩
 clear hT
 obtain ⟨t3,e3,r3,k3⟩:=W3_ok (n+1) x (c:=1) h3
 cases b3:decide (cntI x.text<0) <;> rw [b3] at e3 r3
 case true=>rw [e3]; simp only [cond_true,hbr]; exact hfin 6 _ _ _ (r3 rfl) (by rw [wrongI,b1,b2,b3]; rfl)
 rw [e3]; simp only [cond_false,hb,hsq]
 obtain ⟨t4,e4,r4,k4⟩:=W4_ok (n+1) x (c:=1) k3
 cases b4:(decide (400<cntI x.text)||(decide (x.kind=3)&&decide (400≤x.kids))) <;> rw [b4] at e4 r4
 case true=>rw [e4]; simp only [cond_true,hbr]; exact hfin 3 _ _ _ (r4 rfl) (by rw [wrongI,b1,b2,b3,b4]; rfl)
 rw [e4]; simp only [cond_false,hb]
 obtain ⟨_,q1,_,_⟩:=k4
 obtain ⟨er,har⟩:=arD_form x.prim
 simp only [z0,↓reduceIte,Nat.reduceEqDiff,Nat.reduceAdd,Nat.reduceLeDiff,reduceCtorEq,s0,q1,fn_pure (f:=177) rfl,ex_call,c147,har,namesD_e2]
 generalize hT:tput _ 5 _=T5
 have h5:StW x S T5 none (some (arI x.prim)):=⟨s00,by rw [←hT]; simp [ex_val,q1],nofun,fun v hv=>by cases hv; rw [←hT]; simp [ex_val]⟩
 clear hT
 obtain ⟨t5,e5,r5,k5⟩:=W5_ok (n+1) x (c:=1) h5
 cases b5:((decide (x.kind=3)&&decide (x.kids<0))||((decide (x.kind=5) && !decide (x.kids=arI x.prim))||(decide (x.kind=6)&&(!decide (x.kids=1) && !decide (x.kids=2))))) <;> rw [b5] at e5 r5
 case true=>rw [e5]; simp only [cond_true,hbr]; exact hfin 23 _ _ _ (r5 rfl) (by rw [wrongI,b1,b2,b3,b4,b5]; rfl)
 rw [e5]; simp only [cond_false,hb,hsq]
 obtain ⟨t6,e6,r6,k6⟩:=W6_ok (n+1) x hn (c:=1) ⟨k5.1,k5.2.1,nofun,nofun⟩
 cases b6:((decide (x.kind=4)||decide (x.kind=6)) && !isName x.name) <;> rw [b6] at e6 r6
 case true=>rw [e6]; simp only [cond_true,hbr]; exact hfin 24 _ _ _ (r6 rfl) (by rw [wrongI,b1,b2,b3,b4,b5,b6]; rfl)
 rw [e6]; simp only [cond_false,hb]
 simp only [z0,↓reduceIte,Nat.reduceEqDiff,Nat.reduceAdd,Nat.reduceLeDiff,reduceCtorEq,A105]
 rw [wrongI,b1,b2,b3,b4,b5,b6]; rfl
end
end Zv
