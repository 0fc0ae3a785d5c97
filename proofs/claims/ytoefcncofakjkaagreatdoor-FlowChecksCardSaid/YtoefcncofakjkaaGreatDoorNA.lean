/- What functions come to: runes by the document. Conditions: none. -/
import Derived.Test.YtoefcncofakjkaaGreatDoorLA
set_option linter.unusedVariables false
set_option linter.unusedSimpArgs false
set_option maxRecDepth 100000
namespace Zv
open Go
noncomputable section
def K1:Nat:=1180591620717411303423
def K2:Nat:=1180591620717411303422
def K3:Nat:=1180591620717411303421
def K4:Nat:=1180591620717411303420
def K5:Nat:=1180591620717411303419
theorem zun:(∀ f x,zloop KK f x=zbind (f x) (zloop K1 f))∧(∀ f x,zloop K1 f x=zbind (f x) (zloop K2 f))∧(∀ f x,zloop K2 f x=zbind (f x) (zloop K3 f))∧(∀ f x,zloop K3 f x=zbind (f x) (zloop K4 f))∧(∀ f x,zloop K4 f x=zbind (f x) (zloop K5 f)):=
 ⟨fun _ _=>rfl,fun _ _=>rfl,fun _ _=>rfl,fun _ _=>rfl,fun _ _=>rfl⟩
def isR (r:Int):Bool:=decide (0≤r)&&(decide (r≤1114111)&&(decide (r<55296)||decide (57343<r)))
theorem c282 (n:Nat) (r:Int):cl n 323 [.int .i64 r]=some (.bool (isR r),true):=by
 rw [cl_run (A:=A323) rfl n _ rfl,show A323.body=B323 from rfl]
 simp only [B323,Ab.abq]
 unfold isR
 cases h1:decide (0≤r)
 ·simp only [z0,↓reduceIte,Nat.reduceEqDiff,Nat.reduceAdd,Nat.reduceLeDiff,reduceCtorEq,h1,A323]; rfl
 ·cases h2:decide (r≤1114111)
  ·simp only [z0,↓reduceIte,Nat.reduceEqDiff,Nat.reduceAdd,Nat.reduceLeDiff,reduceCtorEq,h1,h2,A323]; rfl
  ·cases h3:decide (r<55296)
   ·simp only [z0,↓reduceIte,Nat.reduceEqDiff,Nat.reduceAdd,Nat.reduceLeDiff,reduceCtorEq,h1,h2,h3,A323]; rfl
   ·simp only [z0,↓reduceIte,Nat.reduceEqDiff,Nat.reduceAdd,Nat.reduceLeDiff,reduceCtorEq,h1,h2,h3,A323]; rfl
theorem quoN {a c:Int} (h:0≤a) (h':a<9223372036854775808) (hc:0<c):binD .quo (.int .i64 a) (.int .i64 c)=some (.int .i64 (a / c)):=by
 show (if IntKind.i64=IntKind.i64 then (if c=0 then none else some (D.int .i64 (wrapD .i64 (a.tdiv c)))) else none)=_
 rw [if_pos rfl]
 show (if c=0 then none else some (D.int .i64 (wrapD .i64 (a.tdiv c))))=_
 have h1:0≤a / c:=Int.ediv_nonneg h (by omega)
 have h2:a / c≤a:=Int.ediv_le_self _ h
 rw [if_neg (by omega),Int.tdiv_eq_ediv_of_nonneg h,wrapD_i64 (by omega) (by omega)]
theorem remN {a c:Int} (h:0≤a) (hc:0<c):binD .rem (.int .i64 a) (.int .i64 c)=some (.int .i64 (a % c)):=by
 show (if IntKind.i64=IntKind.i64 then (if c=0 then none else some (D.int .i64 (a.tmod c))) else none)=_
 rw [if_pos rfl]
 show (if c=0 then none else some (D.int .i64 (a.tmod c)))=_
 rw [if_neg (by omega),Int.tmod_eq_emod_of_nonneg h]
theorem u8_of {x:Int} (h:0≤x) (h':x<256):wrapD .u8 x=x:=wrapD_fits (by simp only [loK]; omega) (by simp only [hiK]; omega)
def u8L (l:List Int):List D:=l.map (D.int .u8)
def encL (r:Int):List Int:=if r<128 then [r] else if r<2048 then [192+r / 64,128+r % 64] else if r<65536 then [224+r / 4096,128+r / 64 % 64,128+r % 64] else [240+r / 262144,128+r / 4096 % 64,128+r / 64 % 64,128+r % 64]
theorem c283 (n:Nat) {r:Int} (hr:isR r=true):cl (n+1) 324 [.int .i64 r]=some (.tup [.sl true (encL r).length (u8L (encL r)),.int .i64 0],true):=by
 rw [cl_run (A:=A324) rfl (n+1) _ rfl,show A324.body=B324 from rfl]
 simp only [B324,Ab.abq]
 have hr':=hr
 unfold isR at hr'
 simp only [Bool.and_eq_true,decide_eq_true_eq] at hr'
 obtain ⟨r0,r1,_⟩:=hr'
 by_cases h1:r<128
 ·have e1:=u8_of r0 (by omega)
  simp only [z0,↓reduceIte,Nat.reduceEqDiff,Nat.reduceAdd,Nat.reduceLeDiff,reduceCtorEq,fn_pure (f:=323) rfl,ex_call,c282,hr,decide_eq_true h1,e1,A324]
  rw [encL,if_pos h1]; rfl
 ·by_cases h2:r<2048
  ·simp only [z0,↓reduceIte,Nat.reduceEqDiff,Nat.reduceAdd,Nat.reduceLeDiff,reduceCtorEq,fn_pure (f:=323) rfl,ex_call,c282,hr,decide_eq_false h1,decide_eq_true h2,quoN r0 (show r<9223372036854775808 by omega) (show (0:Int)<64 by decide),remN r0 (show (0:Int)<64 by decide),wrapD_i64 (show -9223372036854775808≤192+r / 64 by omega) (by omega),wrapD_i64 (show -9223372036854775808≤128+r % 64 by omega) (by omega),u8_of (show 0≤192+r / 64 by omega) (by omega),u8_of (show 0≤128+r % 64 by omega) (by omega),A324]
   rw [encL,if_neg h1,if_pos h2]; rfl
  ·by_cases h3:r<65536
   ·simp only [z0,↓reduceIte,Nat.reduceEqDiff,Nat.reduceAdd,Nat.reduceLeDiff,reduceCtorEq,fn_pure (f:=323) rfl,ex_call,c282,hr,decide_eq_false h1,decide_eq_false h2,decide_eq_true h3,quoN r0 (show r<9223372036854775808 by omega) (show (0:Int)<64 by decide),quoN r0 (show r<9223372036854775808 by omega) (show (0:Int)<4096 by decide),remN r0 (show (0:Int)<64 by decide),remN (show 0≤r / 64 by omega) (show (0:Int)<64 by decide),wrapD_i64 (show -9223372036854775808≤224+r / 4096 by omega) (by omega),wrapD_i64 (show -9223372036854775808≤128+r / 64 % 64 by omega) (by omega),wrapD_i64 (show -9223372036854775808≤128+r % 64 by omega) (by omega),u8_of (show 0≤224+r / 4096 by omega) (by omega),u8_of (show 0≤128+r / 64 % 64 by omega) (by omega),u8_of (show 0≤128+r % 64 by omega) (by omega),A324]
    rw [encL,if_neg h1,if_neg h2,if_pos h3]; rfl
   ·simp only [z0,↓reduceIte,Nat.reduceEqDiff,Nat.reduceAdd,Nat.reduceLeDiff,reduceCtorEq,fn_pure (f:=323) rfl,ex_call,c282,hr,decide_eq_false h1,decide_eq_false h2,decide_eq_false h3,quoN r0 (show r<9223372036854775808 by omega) (show (0:Int)<64 by decide),quoN r0 (show r<9223372036854775808 by omega) (show (0:Int)<4096 by decide),quoN r0 (show r<9223372036854775808 by omega) (show (0:Int)<262144 by decide),remN r0 (show (0:Int)<64 by decide),remN (show 0≤r / 64 by omega) (show (0:Int)<64 by decide),remN (show 0≤r / 4096 by omega) (show (0:Int)<64 by decide),wrapD_i64 (show -9223372036854775808≤240+r / 262144 by omega) (by omega),wrapD_i64 (show -9223372036854775808≤128+r / 4096 % 64 by omega) (by omega),wrapD_i64 (show -9223372036854775808≤128+r / 64 % 64 by omega) (by omega),wrapD_i64 (show -9223372036854775808≤128+r % 64 by omega) (by omega),u8_of (show 0≤240+r / 262144 by omega) (by omega),u8_of (show 0≤128+r / 4096 % 64 by omega) (by omega),u8_of (show 0≤128+r / 64 % 64 by omega) (by omega),u8_of (show 0≤128+r % 64 by omega) (by omega),A324]
    rw [encL,if_neg h1,if_neg h2,if_neg h3]; rfl
end
end Zv
