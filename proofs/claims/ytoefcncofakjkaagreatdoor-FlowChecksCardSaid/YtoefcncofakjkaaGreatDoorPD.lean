/- What functions come to: good types by the program. Conditions: none. -/
import Derived.Test.YtoefcncofakjkaaGreatDoorPA
import Derived.Test.YtoefcncofakjkaaGreatDoorLA
import Derived.Test.YtoefcncofakjkaaGreatDoorNC
import Derived.Test.YtoefcncofakjkaaGreatDoorCA
import Derived.Test.YtoefcncofakjkaaGreatDoorNK
set_option linter.unusedVariables false
set_option linter.unusedSimpArgs false
set_option maxRecDepth 100000
namespace Zv
open Go
noncomputable section
theorem cp2:(min 2 0=0)∧(min 2 1=1)∧(min 2 2=2)∧(∀ a b:D,List.take 0 [a,b]=[])∧(∀ a b:D,List.take 1 [a,b]=[a])∧(∀ a b:D,List.take 2 [a,b]=[a,b])∧(∀ a b:D,setAt [a,b] 0 []=[a,b])∧(∀ a b c:D,setAt [a,b] 0 [c]=[c,b])∧(∀ a b c d:D,setAt [a,b] 0 [c,d]=[c,d])∧(∀ a:Int,[D.int .i64 a].any isAg=false)∧(∀ a b:Int,[D.int .i64 a,.int .i64 b].any isAg=false)∧(([]:List D).any isAg=false):=
 ⟨rfl,rfl,rfl,fun _ _=>rfl,fun _ _=>rfl,fun _ _=>rfl,fun _ _=>rfl,fun _ _ _=>rfl,fun _ _ _ _=>rfl,fun _=>rfl,fun _ _=>rfl,rfl⟩
theorem tk2:(∀ a b:Int,takeAt [.int .i64 a,.int .i64 b] 0 (some 2)=some (.agg [.int .i64 a,.int .i64 b]))∧(∀ k r a b c:Int,takeAt [.int .i64 k,.int .i64 r,.int .i64 a,.int .i64 b,.int .i64 c] 2 (some 2)=some (.agg [.int .i64 a,.int .i64 b])):=
 ⟨fun _ _=>rfl,fun _ _ _ _ _=>rfl⟩
theorem f115 (n j:Nat) {S:St} {c:Nat} {d e:D} (hdn:isAg d=false) (hen:isAg e=false) (hdf:∀ k s,frz false (k+1) s d=some d) (hef:∀ k s,frz false (k+1) s e=some e) {lw y y1 y2 y3 y4 yd:Int} (s0:sget S 0=some (.fix 158 [d,e,.int .i64 lw])) (s1:sget S 1=some (.fix 76 [.int .i64 y1,.int .i64 y2,.int .i64 y3,.int .i64 y4,.int .i64 yd])) {b:Bool}
  (h:cl n 94 [.agg [d,e,.int .i64 lw],.int .i64 y,.int .i64 yd]=some (.bool b,true)):fn (n+1) (j+2) (.fn 93) [.int .i64 y,.ptr 0 0,.ptr 1 0] S c = .ok (.ret (.bool !b)) S c:=by
 rw [fn_in (f:=93) (A:=A93) rfl rfl rfl rfl (n+1) (j+1) _ _ _ rfl,show A93.body=B93 from rfl]
 simp only [B93,Ab.abq]
 have htk:takeAt [d,e,.int .i64 lw] 0 (some 3)=some (.agg [d,e,.int .i64 lw]):=rfl
 simp only [z2,seval,s0,s1,hdn,hen,htk,fn_pure (f:=94) rfl,ex_call,hdf,hef,h,A93]
theorem zo_cv (cx:Cx) (k:CL) (dst:Option Nat) (a:Arg) (l:List Arg) (x:AS):zOp cx k ⟨dst,.callv a l,none⟩ x=callFn cx k dst x (a.ev cx.G x.t) (evs l cx.G x.t):=rfl
theorem cf_fn (cx:Cx) (k:CL) (dst:Option Nat) (x:AS) (f:Nat) (a:D) (cs:List D):callFn cx k dst x (.fn (.func f) [] cs) [a]=back dst x (k (.fn f) (a::cs) x.s x.c):=rfl
theorem f114 (n j:Nat) {S:St} {c:Nat} {d e:D} (hdn:isAg d=false) (hen:isAg e=false) (hdf:∀ k s,frz false (k+1) s d=some d) (hef:∀ k s,frz false (k+1) s e=some e) {lw y1 k y3 y4 yd:Int} (s0:sget S 0=some (.fix 158 [d,e,.int .i64 lw])) (s1:sget S 1=some (.fix 76 [.int .i64 y1,.int .i64 k,.int .i64 y3,.int .i64 y4,.int .i64 yd])) {b3 b4:Bool}
  (h3:cl n 94 [.agg [d,e,.int .i64 lw],.int .i64 y3,.int .i64 yd]=some (.bool b3,true)) (h4:cl n 94 [.agg [d,e,.int .i64 lw],.int .i64 y4,.int .i64 yd]=some (.bool b4,true)) {q:Nat} (hq:q≤2) :
  fn (n+1) (j+5) (.fn 18) [.ms 1 2 1 q 2,.fn (.func 93) [] [.ptr 0 0,.ptr 1 0]] S c = .ok (.ret (.bool (decide (1≤q) && !b3||decide (2≤q) && !b4))) S c:=by
 rw [fn_in (f:=18) (A:=A18) rfl rfl rfl rfl (n+1) (j+4) _ _ _ rfl,show A18.body=B18 from rfl]
 simp only [B18,Ab.abq]
 have e3:=f115 n (j+1) hdn hen hdf hef s0 s1 h3 (c:=c)
 have e4:=f115 n (j+1) hdn hen hdf hef s0 s1 h4 (c:=c)
 have hc:fn (n+1) (j+4) (.fn 35) [.ms 1 2 1 q 2,.fn (.func 93) [] [.ptr 0 0,.ptr 1 0]] S c = .ok (.ret (.int .i64 (if q=0 then -1 else bif !b3 then 0 else if q=1 then -1 else bif !b4 then 1 else -1))) S c:=by
  rw [fn_in (f:=35) (A:=A35) rfl rfl rfl rfl (n+1) (j+3) _ _ _ rfl,show A35.body=B35 from rfl]
  simp only [B35,Ab.abq]
  have hl:∀ q,lenD false (.ms 1 2 1 q 2)=some q:=fun _=>rfl
  have i01:idxD 1 (.int .i64 0)=some 0:=rfl
  have i02:idxD 2 (.int .i64 0)=some 0:=rfl
  have i1:idxD 2 (.int .i64 1)=some 1:=rfl
  have w1:wrapD .i64 1=1:=rfl
  have ia:iaSD 1 (.ms 1 2 1 1 2) (.int .i64 0)=some (.ptr 1 2)∧iaSD 1 (.ms 1 2 1 2 2) (.int .i64 0)=some (.ptr 1 2)∧iaSD 1 (.ms 1 2 1 2 2) (.int .i64 1)=some (.ptr 1 3):=⟨rfl,rfl,rfl⟩
  have k:((0:Nat):Int)=0∧((1:Nat):Int)=1∧((2:Nat):Int)=2:=⟨rfl,rfl,rfl⟩
  have w2:wrapD .i64 2=2:=rfl
  obtain rfl|rfl|rfl:q=0∨q=1∨q=2:=by omega
  ·simp only [z2,seval,hl,k,zun,Int.reduceLT,nb,A35]
  all_goals (cases b3 <;> cases b4)
  all_goals simp only [z2,seval,hl,k,ia,zo_cv,cf_fn,i01,i02,i1,w1,w2,zun,s1,e3,e4,Int.reduceLT,Int.reduceAdd,nb,A35]
 simp only [z2,seval,hc,A18]
 obtain rfl|rfl|rfl:q=0∨q=1∨q=2:=by omega
 all_goals (cases b3 <;> cases b4 <;> rfl)
theorem cmp2 (a b c d:Int):cmpD (.ty (.parts [(0,none,.int),(1,none,.int)])) (.agg [.int .i64 a,.int .i64 b]) (.agg [.int .i64 c,.int .i64 d])=some (decide (a=c)&&decide (b=d)):=by
 have h:∀ a b:Bool,(bif a then bif b then some true else some false else some false)=some (a&&b):=by decide
 exact h (a==c) (b==d)
set_option maxHeartbeats 2000000 in
theorem c73 (n:Nat) {ss:List (List UInt8)} {us:List Nat} {d e:D} (hd:Sl 1 strC ss d) (he:Sl 1 u8C us e) (hu:Bytes8 us) (hul:us.length=ss.length) (h8:us.length≤8) (lw:Int) (t:Ty):cl (n+1) 59 [.agg [d,e,.int .i64 lw],.agg (tyC t)]=some (.int .i64 (tyE us lw t),true):=by
 rw [cl_run (A:=A59) rfl (n+1) _ rfl,show A59.body=B59 from rfl]
 simp only [B59,Ab.abq]
 have htk:takeAt [d,e,.int .i64 lw] 0 (some 3)=some (.agg [d,e,.int .i64 lw]):=rfl
 have h74:∀ a:Int,cl n 92 [.agg [d,e,.int .i64 lw],.int .i64 a]=some (.bool (labB us.length a),true):=fun a=>by rw [c74 n hd he.nag lw a,labB,hul]
 by_cases hk:t.kind≠1∧t.kind≠2
 ·have hE:tyE us lw t=7:=if_pos (.inl hk)
  rw [hE]; unfold tyC
  simp only [z2,seval,hd.nag,he.nag,decide_eq_false hk.1,decide_eq_false hk.2,Int.reduceLT,Int.reduceLE,Int.reduceEq,nb,A59]; rfl
 have hk':t.kind=1∨t.kind=2:=by omega
 by_cases hr0:t.rank<0
 ·have hE:tyE us lw t=7:=if_pos (.inr (.inl hr0))
  rw [hE]; unfold tyC
  rcases hk' with k|k <;> simp only [z2,seval,hd.nag,he.nag,k,decide_eq_true hr0,Int.reduceLT,Int.reduceLE,Int.reduceEq,nb,A59] <;> rfl
 by_cases hr2:2<t.rank
 ·have hE:tyE us lw t=7:=if_pos (.inr (.inr hr2))
  rw [hE]; unfold tyC
  rcases hk' with k|k <;> simp only [z2,seval,hd.nag,he.nag,k,decide_eq_false hr0,decide_eq_true hr2,Int.reduceLT,Int.reduceLE,Int.reduceEq,nb,A59] <;> rfl
 have hE1:tyE us lw t=if labB us.length t.a0=false∨labB us.length t.a1=false∨labB us.length t.data=false then 7 else
   if (t.rank=0∧t.a0≠lw)∨(t.rank≤1∧t.a1≠lw) then 6 else
   if (1≤t.rank∧leqB us t.a0 t.data=false)∨(t.rank=2∧leqB us t.a1 t.data=false) then 25 else 0:=if_neg (by omega)
 rw [hE1]
 have i0:idxD 2 (.int .i64 0)=some 0:=rfl
 have i1:idxD 2 (.int .i64 1)=some 1:=rfl
 have j0:bndD 2 (.int .i64 0)=some 0:=rfl
 have j1:bndD 2 (.int .i64 1)=some 1:=rfl
 have j2:bndD 2 (.int .i64 2)=some 2:=rfl
 cases l0:labB us.length t.a0
 ·rw [if_pos (.inl rfl)]; unfold tyC
  rcases hk' with k|k <;> simp only [z2,seval,hd.nag,he.nag,k,decide_eq_false hr0,decide_eq_false hr2,htk,i0,i1,fn_pure (f:=92) rfl,ex_call,hd.fz,he.fz,h74,l0,Int.reduceLT,Int.reduceLE,Int.reduceEq,nb,A59] <;> rfl
 cases l1:labB us.length t.a1
 ·rw [if_pos (.inr (.inl rfl))]; unfold tyC
  rcases hk' with k|k <;> simp only [z2,seval,hd.nag,he.nag,k,decide_eq_false hr0,decide_eq_false hr2,htk,i0,i1,fn_pure (f:=92) rfl,ex_call,hd.fz,he.fz,h74,l0,l1,Int.reduceLT,Int.reduceLE,Int.reduceEq,nb,A59] <;> rfl
 cases ld:labB us.length t.data
 ·rw [if_pos (.inr (.inr rfl))]; unfold tyC
  rcases hk' with k|k <;> simp only [z2,seval,hd.nag,he.nag,k,decide_eq_false hr0,decide_eq_false hr2,htk,i0,i1,fn_pure (f:=92) rfl,ex_call,hd.fz,he.fz,h74,l0,l1,ld,Int.reduceLT,Int.reduceLE,Int.reduceEq,nb,A59] <;> rfl
 rw [if_neg (fun h=>by rcases h with h|h|h <;> cases h)]
 obtain ⟨kd,rk,a0,a1,dt⟩:=t
 dsimp only at *
 have w:∀ a:Int,labB us.length a=true→∃ x:Nat,a=x∧x<us.length:=fun a h=>by
  rw [labB,Bool.and_eq_true,decide_eq_true_eq,decide_eq_true_eq] at h
  exact ⟨a.toNat,by omega,by omega⟩
 obtain ⟨x0,rfl,g0⟩:=w _ l0
 obtain ⟨x1,rfl,g1⟩:=w _ l1
 obtain ⟨xd,rfl,gd⟩:=w _ ld
 have q0:cl n 94 [.agg [d,e,.int .i64 lw],.int .i64 (x0:Nat),.int .i64 (xd:Nat)]=some (.bool (leqB us (x0:Nat) (xd:Nat)),true):=c116 n hd.nag he hu lw g0 xd
 have q1:cl n 94 [.agg [d,e,.int .i64 lw],.int .i64 (x1:Nat),.int .i64 (xd:Nat)]=some (.bool (leqB us (x1:Nat) (xd:Nat)),true):=c116 n hd.nag he hu lw g1 xd
 clear w hE1
 generalize leqB us (x0:Nat) (xd:Nat)=b0 at *
 generalize leqB us (x1:Nat) (xd:Nat)=b1 at *
 generalize (x0:Int)=y0 at *
 generalize (x1:Int)=y1 at *
 generalize (xd:Int)=yd at *
 unfold tyC
 have h114:∀ (kd rk:Int) (S:St) (c q:Nat),sget S 0=some (.fix 158 [d,e,.int .i64 lw])→sget S 1=some (.fix 76 [.int .i64 kd,.int .i64 rk,.int .i64 y0,.int .i64 y1,.int .i64 yd])→q≤2 →
   fn (n+1) 4096 (.fn 18) [.ms 1 2 1 q 2,.fn (.func 93) [] [.ptr 0 0,.ptr 1 0]] S c = .ok (.ret (.bool (decide (1≤q) && !b0||decide (2≤q) && !b1))) S c:=fun kd rk S c q s0 s1 hq=>
  f114 n 4091 hd.nag he.nag hd.fz he.fz s0 s1 q0 q1 hq
 have hr:rk=0∨rk=1∨rk=2:=by omega
 rcases hr with rfl|rfl|rfl
 ·by_cases e1:lw=y1
  ·by_cases e0:lw=y0
   ·rw [if_neg (by simp [e0,e1]; rw [←e0,e1]),if_neg (by simp)]
    rcases hk' with rfl|rfl <;> simp only [z2,seval,hd.nag,he.nag,zipO,killT,AOp.kd,zop,tks,sameStep,sd_or,htk,i0,i1,fn_pure (f:=92) rfl,ex_call,hd.fz,he.fz,h74,l0,l1,ld,cmp2,Int.reduceLT,Int.reduceLE,Int.reduceEq,nb,step_slA,step_copy,st_slA,st_copy,tk2,decide_eq_true e0,decide_eq_true e1,h114 1 0,h114 2 0,List.map_nil,List.map_cons,bndO,cp2,Nat.zero_mul,Nat.mul_one,Option.map_some,j0,j1,j2,Option.bind_some,Nat.reduceMul,Nat.reduceSub,sliceCells,blkCells,A59] <;> rfl
   ·rw [if_pos (.inl ⟨rfl,fun h=>e0 h.symm⟩)]
    rcases hk' with rfl|rfl <;> simp only [z2,seval,hd.nag,he.nag,zipO,killT,AOp.kd,zop,tks,sameStep,sd_or,htk,i0,i1,fn_pure (f:=92) rfl,ex_call,hd.fz,he.fz,h74,l0,l1,ld,cmp2,Int.reduceLT,Int.reduceLE,Int.reduceEq,nb,step_slA,step_copy,st_slA,st_copy,tk2,decide_eq_false e0,decide_eq_true e1,bndO,cp2,Nat.zero_mul,Nat.mul_one,Option.map_some,j0,j1,j2,Option.bind_some,Nat.reduceMul,Nat.reduceSub,sliceCells,blkCells,A59] <;> rfl
  ·rw [if_pos (.inr ⟨by decide,fun h=>e1 h.symm⟩)]
   by_cases e0:lw=y0
   ·rcases hk' with rfl|rfl <;> simp only [z2,seval,hd.nag,he.nag,zipO,killT,AOp.kd,zop,tks,sameStep,sd_or,htk,i0,i1,fn_pure (f:=92) rfl,ex_call,hd.fz,he.fz,h74,l0,l1,ld,cmp2,Int.reduceLT,Int.reduceLE,Int.reduceEq,nb,step_slA,step_copy,st_slA,st_copy,tk2,decide_eq_true e0,decide_eq_false e1,bndO,cp2,Nat.zero_mul,Nat.mul_one,Option.map_some,j0,j1,j2,Option.bind_some,Nat.reduceMul,Nat.reduceSub,sliceCells,blkCells,A59] <;> rfl
   ·rcases hk' with rfl|rfl <;> simp only [z2,seval,hd.nag,he.nag,zipO,killT,AOp.kd,zop,tks,sameStep,sd_or,htk,i0,i1,fn_pure (f:=92) rfl,ex_call,hd.fz,he.fz,h74,l0,l1,ld,cmp2,Int.reduceLT,Int.reduceLE,Int.reduceEq,nb,step_slA,step_copy,st_slA,st_copy,tk2,decide_eq_false e0,decide_eq_false e1,bndO,cp2,Nat.zero_mul,Nat.mul_one,Option.map_some,j0,j1,j2,Option.bind_some,Nat.reduceMul,Nat.reduceSub,sliceCells,blkCells,A59] <;> rfl
 ·by_cases e1:lw=y1
  ·rw [if_neg (by simp [e1])]
   cases b0
   ·rw [if_pos (by simp)]
    rcases hk' with rfl|rfl <;> simp only [z2,seval,hd.nag,he.nag,zipO,killT,AOp.kd,zop,tks,sameStep,sd_or,htk,i0,i1,fn_pure (f:=92) rfl,ex_call,hd.fz,he.fz,h74,l0,l1,ld,cmp2,Int.reduceLT,Int.reduceLE,Int.reduceEq,nb,step_slA,step_copy,st_slA,st_copy,tk2,decide_eq_true e1,h114 1 1,h114 2 1,List.map_nil,List.map_cons,bndO,cp2,Nat.zero_mul,Nat.mul_one,Option.map_some,j0,j1,j2,Option.bind_some,Nat.reduceMul,Nat.reduceSub,sliceCells,blkCells,A59] <;> rfl
   ·rw [if_neg (by simp)]
    rcases hk' with rfl|rfl <;> simp only [z2,seval,hd.nag,he.nag,zipO,killT,AOp.kd,zop,tks,sameStep,sd_or,htk,i0,i1,fn_pure (f:=92) rfl,ex_call,hd.fz,he.fz,h74,l0,l1,ld,cmp2,Int.reduceLT,Int.reduceLE,Int.reduceEq,nb,step_slA,step_copy,st_slA,st_copy,tk2,decide_eq_true e1,h114 1 1,h114 2 1,List.map_nil,List.map_cons,bndO,cp2,Nat.zero_mul,Nat.mul_one,Option.map_some,j0,j1,j2,Option.bind_some,Nat.reduceMul,Nat.reduceSub,sliceCells,blkCells,A59] <;> rfl
  ·rw [if_pos (.inr ⟨by decide,fun h=>e1 h.symm⟩)]
   rcases hk' with rfl|rfl <;> simp only [z2,seval,hd.nag,he.nag,zipO,killT,AOp.kd,zop,tks,sameStep,sd_or,htk,i0,i1,fn_pure (f:=92) rfl,ex_call,hd.fz,he.fz,h74,l0,l1,ld,cmp2,Int.reduceLT,Int.reduceLE,Int.reduceEq,nb,step_slA,step_copy,st_slA,st_copy,tk2,decide_eq_false e1,bndO,cp2,Nat.zero_mul,Nat.mul_one,Option.map_some,j0,j1,j2,Option.bind_some,Nat.reduceMul,Nat.reduceSub,sliceCells,blkCells,A59] <;> rfl
 ·rw [if_neg (by simp)]
  cases b0
  ·rw [if_pos (by simp)]
   rcases hk' with rfl|rfl <;> simp only [z2,seval,hd.nag,he.nag,zipO,killT,AOp.kd,zop,tks,sameStep,sd_or,htk,i0,i1,fn_pure (f:=92) rfl,ex_call,hd.fz,he.fz,h74,l0,l1,ld,cmp2,Int.reduceLT,Int.reduceLE,Int.reduceEq,nb,step_slA,step_copy,st_slA,st_copy,tk2,h114 1 2,h114 2 2,List.map_nil,List.map_cons,bndO,cp2,Nat.zero_mul,Nat.mul_one,Option.map_some,j0,j1,j2,Option.bind_some,Nat.reduceMul,Nat.reduceSub,sliceCells,blkCells,A59] <;> rfl
  cases b1
  ·rw [if_pos (by simp)]
   rcases hk' with rfl|rfl <;> simp only [z2,seval,hd.nag,he.nag,zipO,killT,AOp.kd,zop,tks,sameStep,sd_or,htk,i0,i1,fn_pure (f:=92) rfl,ex_call,hd.fz,he.fz,h74,l0,l1,ld,cmp2,Int.reduceLT,Int.reduceLE,Int.reduceEq,nb,step_slA,step_copy,st_slA,st_copy,tk2,h114 1 2,h114 2 2,List.map_nil,List.map_cons,bndO,cp2,Nat.zero_mul,Nat.mul_one,Option.map_some,j0,j1,j2,Option.bind_some,Nat.reduceMul,Nat.reduceSub,sliceCells,blkCells,A59] <;> rfl
  ·rw [if_neg (by simp)]
   rcases hk' with rfl|rfl <;> simp only [z2,seval,hd.nag,he.nag,zipO,killT,AOp.kd,zop,tks,sameStep,sd_or,htk,i0,i1,fn_pure (f:=92) rfl,ex_call,hd.fz,he.fz,h74,l0,l1,ld,cmp2,Int.reduceLT,Int.reduceLE,Int.reduceEq,nb,step_slA,step_copy,st_slA,st_copy,tk2,h114 1 2,h114 2 2,List.map_nil,List.map_cons,bndO,cp2,Nat.zero_mul,Nat.mul_one,Option.map_some,j0,j1,j2,Option.bind_some,Nat.reduceMul,Nat.reduceSub,sliceCells,blkCells,A59] <;> rfl
end
end Zv
namespace Zv
open Go
noncomputable section
theorem CHK_ord {ss:List (List UInt8)} {us:List Nat} (h:CHK ss us=e2 0 0):us.length=ss.length∧(1≤ss.length∧ss.length≤8)∧∀ a,a<ss.length→ordB ss.length (uM us) a=true:=by
 unfold CHK at h
 rcases namesD_cases ss with ⟨h1,h2⟩|⟨h1,a,er,h2,h3⟩
 ·rw [if_pos h1] at h
  by_cases hl:us.length=ss.length
  ·rw [if_pos hl] at h
   unfold ordD at h
   refine ⟨hl,(namesB_iff.1 h1).1,fun a ha => ?_⟩
   rcases scan_cases (ordP ss.length (uM us)) (latD ss.length (uM us)) ss.length 0 with ⟨hb,h'⟩|⟨m,r,_,h2,h3,_,h5⟩
   ·have:=hb a (by omega) (by omega)
    unfold ordP at this
    cases hl:ordB ss.length (uM us) a
    ·rw [hl] at this; cases this
    ·rfl
   ·rw [h5] at h; unfold ordP at h3
    cases hb:ordB ss.length (uM us) m <;> rw [hb] at h3
    ·cases h3; exact absurd (e2_inj h).2 (by decide)
    ·cases h3
  ·rw [if_neg hl] at h; exact absurd (e2_inj h).2 (by decide)
 ·rw [if_neg (by rw [h1]; decide),h2] at h; exact absurd (e2_inj h).2 h3
theorem ord_trans {n:Nat} {u:Nat→Nat} (h:∀ a,a<n→ordB n u a=true) {a b c:Nat} (ha:a<n) (hb:b<n) (hc:c<n) (h1:(u a).testBit b=true) (h2:(u b).testBit c=true):(u a).testBit c=true:=by
 have:=h a ha
 simp only [ordB,Bool.and_eq_true] at this
 have h3:=allN_iff.1 this.2.2 b hb
 simp only [okA,h1,Bool.not_true,Bool.false_or,Bool.and_eq_true,Nat.beq_eq] at h3
 have h4:((u b&&&(2 ^ n-1))&&&u a).testBit c=(u b&&&(2 ^ n-1)).testBit c:=by rw [h3.2]
 simpa [Nat.testBit_and,Nat.testBit_two_pow_sub_one,hc,h2] using h4
theorem ord_refl {n:Nat} {u:Nat→Nat} (h:∀ a,a<n→ordB n u a=true) {a:Nat} (ha:a<n):(u a).testBit a=true∧u a<2 ^ n:=by
 have:=h a ha
 simp only [ordB,Bool.and_eq_true,Nat.blt_eq] at this
 exact ⟨this.2.1,this.1⟩
theorem ord_anti {n:Nat} {u:Nat→Nat} (h:∀ a,a<n→ordB n u a=true) {a b:Nat} (ha:a<n) (hb:b<n) (h1:(u a).testBit b=true) (h2:(u b).testBit a=true):a=b:=by
 have:=h a ha
 simp only [ordB,Bool.and_eq_true] at this
 have h3:=allN_iff.1 this.2.2 b hb
 simp only [okA,h1,h2,Bool.not_true,Bool.false_or,Bool.or_false,Bool.and_eq_true,Nat.beq_eq] at h3
 exact h3.1.symm
theorem has_low {ss:List (List UInt8)} {us:List Nat} (h:CHK ss us=e2 0 0):∃ b,b<ss.length∧∀ i,i<ss.length→(uM us b).testBit i=true:=by
 obtain ⟨hl,⟨h1,h8⟩,ho⟩:=CHK_ord h
 have hlat:=latD_good (CHK_lat h)
 have:∀ k,k≤ss.length→∃ b,b<ss.length∧∀ i,i<k→(uM us b).testBit i=true:=by
  intro k
  induction k with
  | zero=>exact fun _=>⟨0,by omega,nofun⟩
  | succ k ih=>
   intro hk
   obtain ⟨b,hb,hall⟩:=ih (by omega)
   have h2:=hlat b hb k (by omega)
   unfold lat2 at h2
   simp only [Bool.and_eq_true,Bool.not_eq_true',decide_eq_false_iff_not] at h2
   have h3:=h2.2
   unfold nearD at h3
   rcases scan_cases (nearP (dnM (uM us) ss.length ss.length) b k) (-1) ss.length 0 with ⟨_,h'⟩|⟨m,r,_,hm,h5,_,_⟩
   ·rw [h'] at h3; exact absurd (by decide) h3
   have hm':m<ss.length:=by omega
   unfold nearP at h5
   split at h5
   case isFalse=>cases h5
   case isTrue he=>
    have hmm:(dnM (uM us) ss.length ss.length m).testBit m=true:=by rw [dnM_bit]; simp [hm',(ord_refl ho hm').1]
    rw [Nat.eq_of_beq_eq_true he,Nat.testBit_and,dnM_bit,dnM_bit] at hmm
    simp only [Bool.and_eq_true,decide_eq_true_eq] at hmm
    refine ⟨m,hm',fun i hi => ?_⟩
    rcases Nat.lt_succ_iff_lt_or_eq.1 hi with h'|rfl
    ·exact ord_trans ho hm' hb (by omega) hmm.1.2.1 (hall i h')
    ·exact hmm.2.2.1
 exact this _ (Nat.le_refl _)
theorem pop_full:∀ k,k≤8→∀ v,v<2 ^ k→(k≤pop v↔v=2 ^ k-1):=by
 have:∀ k,k<9→∀ v,v<2 ^ k→(k≤pop v↔v=2 ^ k-1):=by decide +kernel
 exact fun k hk=>this k (by omega)
theorem low_end {ss:List (List UInt8)} {us:List Nat} (h:CHK ss us=e2 0 0):∃ b:Nat,b<ss.length∧lowI us=b∧endI (uM us) ss.length=b∧∀ i,i<ss.length→(uM us b).testBit i=true:=by
 obtain ⟨hl,⟨h1,h8⟩,ho⟩:=CHK_ord h
 obtain ⟨b,hb,hall⟩:=has_low h
 have hub:uM us b=2 ^ ss.length-1:=by
  refine Nat.eq_of_testBit_eq fun i => ?_
  rw [Nat.testBit_two_pow_sub_one]
  by_cases hi:i<ss.length
  ·rw [hall i hi,decide_eq_true hi]
  ·rw [decide_eq_false hi,Nat.testBit_lt_two_pow]
   exact Nat.lt_of_lt_of_le (ord_refl ho hb).2 (Nat.pow_le_pow_right (by omega) (by omega))
 have huniq:∀ j,j<ss.length→uM us j=2 ^ ss.length-1→j=b:=fun j hj he=>
  ord_anti ho hj hb (by rw [he,Nat.testBit_two_pow_sub_one]; simpa using hb) (hall j hj)
 have hD:∀ j,us.getD j 0=uM us j:=fun _=>rfl
 refine ⟨b,hb,?_,?_,hall⟩
 ·unfold lowI
  rw [hl]
  refine scan_at hb (by rw [lowP,if_pos (by rw [hD,hub,hl])]) fun j hj => ?_
  rw [lowP,if_neg]
  intro he
  rw [hD,hl] at he
  have:=huniq j (by omega) he
  omega
 ·unfold endI
  refine scan_at hb (by rw [endP,if_pos (.inr ((pop_full _ h8 _ (ord_refl ho hb).2).2 hub))]) fun j hj => ?_
  rw [endP,if_neg]
  rintro (he|he)
  ·omega
  ·have:=huniq j (by omega) ((pop_full _ h8 _ (ord_refl ho (by omega)).2).1 he)
   omega
theorem c62 (n:Nat) {ss:List (List UInt8)} {us:List Nat} {d e:D} (hd:Sl 1 strC ss d) (he:Sl 1 u8C us e) (hu:Bytes8 us) (hs:Small ss) (hC:CHK ss us=e2 0 0) (t:Ty):cl (n+9) 33 [.agg [d,e],.agg (tyC t)]=some (.int .i64 (tyE us (lowI us) t),true):=by
 rw [cl_run (A:=A33) rfl (n+9) _ rfl,show A33.body=B33 from rfl]
 simp only [B33,Ab.abq]
 have htk:takeAt [d,e] 0 (some 2)=some (.agg [d,e]):=rfl
 have htk3:∀ x:Int,takeAt [d,e,.int .i64 x] 0 (some 3)=some (.agg [d,e,.int .i64 x]):=fun _=>rfl
 obtain ⟨hl,⟨h1,h8⟩,_⟩:=CHK_ord hC
 obtain ⟨f,h72⟩:=c72 n hd he hu hs hC hl h1 h8
 obtain ⟨b,_,e1,e2,_⟩:=low_end hC
 have h73:=c73 (n+7) hd he hu hl (by omega) (lowI us) t
 have htt:∀ t:Ty,takeAt (tyC t) 0 (some 5)=some (.agg (tyC t)):=fun _=>rfl
 have htn:∀ t:Ty,(tyC t).any isAg=false∧(tyC t).length=5:=fun _=>⟨rfl,rfl⟩
 have hft:∀ s,frz false 20 s (.agg (tyC t))=some (.agg (tyC t)):=fun _=>rfl
 rw [e2,←e1] at h72
 cases f
 all_goals simp only [z2,seval,hd.nag,he.nag,htk,htk3,htt,(htn t).1,(htn t).2,hft,fn_pure (f:=58) rfl,fn_pure (f:=59) rfl,ex_call,hd.fz,he.fz,h72,h73,D.pures,D.pure,hd.pure,he.pure,Bool.and_self,Bool.or_true,namesD_e2,nb,A33]
 all_goals rfl
end
end Zv
namespace Zv
open Go
noncomputable section
def restX (x:Nd):Nd:=
 if x.kind=1 then ⟨0,x.prim,x.kids,x.name,x.text,0,0⟩ else
 if x.kind=2 then ⟨0,x.prim,x.kids,x.name,[],x.n,0⟩ else
 if x.kind=5 then ⟨0,0,0,x.name,x.text,x.n,0⟩ else
 if x.kind=6 then ⟨0,x.prim,0,[],x.text,x.n,0⟩ else
 if x.kind=4 then ⟨0,x.prim,x.kids,[],x.text,x.n,0⟩ else
 if x.kind=3 then ⟨0,x.prim,0,x.name,x.text,x.n,0⟩ else ⟨0,x.prim,x.kids,x.name,x.text,x.n,0⟩
def isK (x:Nd):Bool:=decide (x.kind=5)||decide (x.kind=6)
theorem c123 (n:Nat) (x:Nd):cl n 99 [.agg (nodeC x)]=some (.tup [.agg (nodeC (restX x)),.bool (isK x)],true):=by
 rw [cl_run (A:=A99) rfl n _ rfl,show A99.body=B99 from rfl]
 have htk:takeAt [.int .i64 x.kind,.int .i64 x.prim,.int .i64 x.kids,.str x.name,.str x.text,.int .i64 x.n,.int .i64 x.site] 0 (some 7)=some (.agg [.int .i64 x.kind,.int .i64 x.prim,.int .i64 x.kids,.str x.name,.str x.text,.int .i64 x.n,.int .i64 x.site]):=rfl
 simp only [B99,Ab.abq]
 by_cases k1:x.kind=1
 ·have hr:restX x=⟨0,x.prim,x.kids,x.name,x.text,0,0⟩:=if_pos k1
  have hi:isK x=false:=by rw [isK,k1]; rfl
  rw [hr,hi]
  unfold nodeC
  simp only [z0,↓reduceIte,Nat.reduceEqDiff,Nat.reduceAdd,Nat.reduceLeDiff,reduceCtorEq,k1,decide_true,decide_false,Int.reduceEq,A99]
  rfl
 by_cases k2:x.kind=2
 ·have hr:restX x=⟨0,x.prim,x.kids,x.name,[],x.n,0⟩:=by rw [restX,if_neg k1,if_pos k2]
  have hi:isK x=false:=by rw [isK,k2]; rfl
  rw [hr,hi]
  unfold nodeC
  simp only [z0,↓reduceIte,Nat.reduceEqDiff,Nat.reduceAdd,Nat.reduceLeDiff,reduceCtorEq,k2,decide_true,decide_false,Int.reduceEq,A99]
  rfl
 by_cases k5:x.kind=5
 ·have hr:restX x=⟨0,0,0,x.name,x.text,x.n,0⟩:=by rw [restX,if_neg k1,if_neg k2,if_pos k5]
  have hi:isK x=true:=by rw [isK,k5]; rfl
  rw [hr,hi]
  unfold nodeC
  simp only [z0,↓reduceIte,Nat.reduceEqDiff,Nat.reduceAdd,Nat.reduceLeDiff,reduceCtorEq,k5,decide_true,decide_false,Int.reduceEq,A99]
  rfl
 by_cases k6:x.kind=6
 ·have hr:restX x=⟨0,x.prim,0,[],x.text,x.n,0⟩:=by rw [restX,if_neg k1,if_neg k2,if_neg k5,if_pos k6]
  have hi:isK x=true:=by rw [isK,k6]; rfl
  rw [hr,hi]
  unfold nodeC
  simp only [z0,↓reduceIte,Nat.reduceEqDiff,Nat.reduceAdd,Nat.reduceLeDiff,reduceCtorEq,k6,decide_true,decide_false,Int.reduceEq,A99]
  rfl
 by_cases k4:x.kind=4
 ·have hr:restX x=⟨0,x.prim,x.kids,[],x.text,x.n,0⟩:=by rw [restX,if_neg k1,if_neg k2,if_neg k5,if_neg k6,if_pos k4]
  have hi:isK x=false:=by rw [isK,k4]; rfl
  rw [hr,hi]
  unfold nodeC
  simp only [z0,↓reduceIte,Nat.reduceEqDiff,Nat.reduceAdd,Nat.reduceLeDiff,reduceCtorEq,k4,decide_true,decide_false,Int.reduceEq,A99]
  rfl
 by_cases k3:x.kind=3
 ·have hr:restX x=⟨0,x.prim,0,x.name,x.text,x.n,0⟩:=by rw [restX,if_neg k1,if_neg k2,if_neg k5,if_neg k6,if_neg k4,if_pos k3]
  have hi:isK x=false:=by rw [isK,k3]; rfl
  rw [hr,hi]
  unfold nodeC
  simp only [z0,↓reduceIte,Nat.reduceEqDiff,Nat.reduceAdd,Nat.reduceLeDiff,reduceCtorEq,k3,decide_true,decide_false,Int.reduceEq,A99]
  rfl
 have hr:restX x=⟨0,x.prim,x.kids,x.name,x.text,x.n,0⟩:=by rw [restX,if_neg k1,if_neg k2,if_neg k5,if_neg k6,if_neg k4,if_neg k3]
 have hi:isK x=false:=by rw [isK,decide_eq_false k5,decide_eq_false k6]; rfl
 rw [hr,hi]
 unfold nodeC
 simp only [z0,↓reduceIte,Nat.reduceEqDiff,Nat.reduceAdd,Nat.reduceLeDiff,reduceCtorEq,decide_eq_false k1,decide_eq_false k2,decide_eq_false k3,decide_eq_false k4,decide_eq_false k5,decide_eq_false k6,A99]
 rfl
end
end Zv
set_option linter.unnecessarySimpa false
namespace Zv
open Go Ab
noncomputable section
def V8:AC:=(s (r [f 96 0 1,l 97 96,d 98 .eql 97 (i 4),m 99 98,n 100 99 (.fa 0 (.t 1)),n 101 99 (.ld none (.t 100)),n 102 99 (.bin .eql (.t 101) (.c (i 6))),u 103 (.pick (.t 99) (.c (.bool true)) (.t 102)),m 104 103,y 105 104 (.fa 3 (.t 1)),y 106 104 (.ld none (.t 105)),y 107 104 (.call 32 [(.t 106)]),y 108 104 (.un .not (.t 107)),u 109 (.pick (.t 104) (.t 108) (.c (.bool false))),m 95 109]) (.cond (.t 95) (s (r [c 2 (i 24)]) .ret) .skip))
def V7:AC:=(s (s (r [f 65 0 1,l 66 65,d 67 .eql 66 (i 5),m 68 67,y 69 68 (.fa 2 (.t 1)),y 70 68 (.ld none (.t 69)),my 71 3 68,y 72 68 (.bin .neq (.t 70) (.t 71)),u 73 (.pick (.t 68) (.t 72) (.c (.bool false))),m 64 73]) (.cond (.t 64) .skip (s (r [f 74 0 1,l 75 74,d 76 .eql 75 (i 6),m 77 76,y 78 77 (.fa 2 (.t 1)),y 79 77 (.ld none (.t 78)),y 80 77 (.bin .lss (.t 79) (.c (i 1))),my 81 80 77,n 82 81 (.fa 2 (.t 1)),n 83 81 (.ld none (.t 82)),n 84 81 (.bin .gtr (.t 83) (.c (i 2))),y 85 77 (.pick (.t 81) (.c (.bool true)) (.t 84)),u 86 (.pick (.t 77) (.t 85) (.c (.bool false))),m 64 86]) (.cond (.t 64) .skip (r [f 87 0 1,l 88 87,d 89 .eql 88 (i 3),m 90 89,y 91 90 (.fa 2 (.t 1)),y 92 90 (.ld none (.t 91)),y 93 90 (.bin .lss (.t 92) (.c (i 0))),u 94 (.pick (.t 90) (.t 93) (.c (.bool false))),m 64 94]))))) (.cond (.t 64) (s (r [c 2 (i 23)]) .ret) V8))
def V6:AC:=(s (s (r [f 52 4 1,l 53 52,u 54 (.call 168 [(.t 53)]),d 55 .gtr 54 (i 400),m 51 55]) (.cond (.t 51) .skip (r [f 56 0 1,l 57 56,d 58 .eql 57 (i 3),m 59 58,y 60 59 (.fa 2 (.t 1)),y 61 59 (.ld none (.t 60)),y 62 59 (.bin .geq (.t 61) (.c (i 400))),u 63 (.pick (.t 59) (.t 62) (.c (.bool false))),m 51 63]))) (.cond (.t 51) (s (r [c 2 (i 3)]) .ret) V7))
def V5:AC:=(s (r [f 47 4 1,l 48 47,u 49 (.call 91 [(.t 48)]),u 50 (.un .not (.t 49)),m 46 50]) (.cond (.t 46) (s (r [c 2 (i 6)]) .ret) V6))
def V4:AC:=(s (r [f 38 6 1,l 39 38,d 40 .lss 39 (i 0),m 41 40,n 42 41 (.fa 6 (.t 1)),n 43 41 (.ld none (.t 42)),n 44 41 (.bin .gtr (.t 43) (.c (i 1000000000))),u 45 (.pick (.t 41) (.c (.bool true)) (.t 44)),m 37 45]) (.cond (.t 37) (s (r [c 2 (i 7)]) .ret) V5))
def V3:AC:=(s (r [u 34 (.ld (some 7) (.t 6)),u 35 (.bld [(i 0),(i 0),(i 0),(.str []),(.str []),(i 0),(i 0)] []),u 36 (.cmp true (.ty (.parts [(0,none,.int),(1,none,.int),(2,none,.int),(3,none,.str),(4,none,.str),(5,none,.int),(6,none,.int)])) (.t 34) (.t 35)),m 33 36]) (.cond (.t 33) (s (r [c 2 (i 2)]) .ret) V4))
def V1:AC:=(s (r [f 8 0 1,l 9 8,d 10 .lss 9 (i 1),m 11 10,n 12 11 (.fa 0 (.t 1)),n 13 11 (.ld none (.t 12)),n 14 11 (.bin .gtr (.t 13) (.c (i 6))),u 15 (.pick (.t 11) (.c (.bool true)) (.t 14))]) (.cond (.t 15) (s (r [c 2 (i 2)]) .ret) .skip))
def V2:AC:=(s (r [f 16 0 1,l 17 16,d 18 .eql 17 (i 5)]) (.cond (.t 18) (s (r [f 20 1 1,l 21 20,u 22 (.call 167 [(.t 21)]),m 19 22,e 23 0 19,e 24 1 19,m 4 23,m 5 24]) (s (s (r [m 25 5,d 26 .neq 25 (i 0)]) (.cond (.t 26) (s (r [c 2 (i 2)]) .ret) .skip)) (r [m 27 4,m 3 27]))) .skip))
theorem B119_eq:B95=(s (r [u 1 (.new 50 (.t 0)),c 2 (i 0)]) (s V1 (s (r [c 3 (i 0)]) (s V2 (s (r [u 29 (.ld (some 7) (.t 1)),u 30 (.call 99 [(.t 29)]),m 28 30,e 31 0 28,e 32 1 28,u 6 (.new 50 (.c (.agg [(i 0),(i 0),(i 0),(.str []),(.str []),(i 0),(i 0)]))),w (.st 7 (.t 6) (.t 31)),m 7 32]) (s (.block 0 V3) (s (r [c 2 (i 0)]) .ret))))))):=rfl
def StF (x:Nd) (st:St) (t:Tm) (ar:Int):Prop:=sget st 0=some (.fix 50 (nodeC x))∧sget st 1=some (.fix 50 (nodeC (restX x)))∧tget t 1 = .ptr 0 0∧tget t 6 = .ptr 1 0∧tget t 3 = .int .i64 ar
def StepF (V V':AC) (n:Nat) (x:Nd) (b:Bool) (e ar:Int):Prop:=∀ {t:Tm} {st:St} {c:Nat},StF x st t ar →
 (b=true→∃ t',zC V (cxn (n+9)) (fn (n+9) 4096) KK ⟨t,st,c,[],none⟩ = .ok .ret ⟨t',st,c,[],none⟩∧tget t' 2 = .int .i64 e) ∧
 (b=false→∃ t',zC V (cxn (n+9)) (fn (n+9) 4096) KK ⟨t,st,c,[],none⟩=zC V' (cxn (n+9)) (fn (n+9) 4096) KK ⟨t',st,c,[],none⟩∧StF x st t' ar)
def zeroB (y:Nd):Bool:=(y.kind==0)&&((y.prim==0)&&((y.kids==0)&&((y.name==[])&&((y.text==[])&&((y.n==0)&&(y.site==0))))))
theorem zero_cmp (y:Nd):cmpD (.ty (.parts [(0,none,.int),(1,none,.int),(2,none,.int),(3,none,.str),(4,none,.str),(5,none,.int),(6,none,.int)])) (.agg [.int .i64 y.kind,.int .i64 y.prim,.int .i64 y.kids,.str y.name,.str y.text,.int .i64 y.n,.int .i64 y.site]) (.agg [.int .i64 0,.int .i64 0,.int .i64 0,.str [],.str [],.int .i64 0,.int .i64 0])=some (zeroB y):=by
 have h:∀ a b c d e f g:Bool,(bif a then bif b then bif c then bif d then bif e then bif f then bif g then some true else some false else some false else some false else some false else some false else some false else some false)=some (a&&(b&&(c&&(d&&(e&&(f&&g)))))):=by decide
 exact h (y.kind==0) (y.prim==0) (y.kids==0) (y.name==[]) (y.text==[]) (y.n==0) (y.site==0)
theorem V3_ok (n:Nat) (x:Nd) {ar:Int}:StepF V3 V4 n x (!zeroB (restX x)) 2 ar:=fun {t st c} h=>by
 obtain ⟨s0,s1,q1,q6,q3⟩:=h
 have s00:=s0
 have s11:=s1
 unfold nodeC at s0 s1
 have htk:takeAt [.int .i64 (restX x).kind,.int .i64 (restX x).prim,.int .i64 (restX x).kids,.str (restX x).name,.str (restX x).text,.int .i64 (restX x).n,.int .i64 (restX x).site] 0 (some 7)=some (.agg [.int .i64 (restX x).kind,.int .i64 (restX x).prim,.int .i64 (restX x).kids,.str (restX x).name,.str (restX x).text,.int .i64 (restX x).n,.int .i64 (restX x).site]):=rfl
 have hz:=zero_cmp (restX x)
 simp only [V3,Ab.abq]
 cases h1:zeroB (restX x)
 ·simp only [z2,↓reduceIte,Nat.reduceEqDiff,Nat.reduceAdd,Nat.reduceLeDiff,reduceCtorEq,s0,s1,q1,q6,q3,Int.reduceEq,Int.reduceLT,Int.reduceLE,ne_eq,not_true_eq_false,not_false_eq_true,decide_true,decide_false,decide_not,Bool.not_true,Bool.not_false,h1,htk,hz,Option.map_some]
  exact ⟨fun _=>⟨_,rfl,by simp [ex_val]⟩,nofun⟩
 ·simp only [z2,↓reduceIte,Nat.reduceEqDiff,Nat.reduceAdd,Nat.reduceLeDiff,reduceCtorEq,s0,s1,q1,q6,q3,Int.reduceEq,Int.reduceLT,Int.reduceLE,ne_eq,not_true_eq_false,not_false_eq_true,decide_true,decide_false,decide_not,Bool.not_true,Bool.not_false,h1,htk,hz,Option.map_some]
  exact ⟨nofun,fun _=>⟨_,rfl,s00,s11,by simp [ex_val,q1],by simp [ex_val,q6],by simp [ex_val,q3]⟩⟩
theorem V4_ok (n:Nat) (x:Nd) {ar:Int}:StepF V4 V5 n x (decide (x.site<0)||decide (1000000000<x.site)) 7 ar:=fun {t st c} h=>by
 obtain ⟨s0,s1,q1,q6,q3⟩:=h
 have s00:=s0
 have s11:=s1
 unfold nodeC at s0 s1
 simp only [V4,Ab.abq]
 cases h1:decide (x.site<0)
 ·cases h2:decide (1000000000<x.site)
  ·simp only [z0,↓reduceIte,Nat.reduceEqDiff,Nat.reduceAdd,Nat.reduceLeDiff,reduceCtorEq,s0,s1,q1,q6,q3,Int.reduceEq,Int.reduceLT,Int.reduceLE,ne_eq,not_true_eq_false,not_false_eq_true,decide_true,decide_false,decide_not,Bool.not_true,Bool.not_false,h1,h2]
   exact ⟨nofun,fun _=>⟨_,rfl,s00,s11,by simp [ex_val,q1],by simp [ex_val,q6],by simp [ex_val,q3]⟩⟩
  ·simp only [z0,↓reduceIte,Nat.reduceEqDiff,Nat.reduceAdd,Nat.reduceLeDiff,reduceCtorEq,s0,s1,q1,q6,q3,Int.reduceEq,Int.reduceLT,Int.reduceLE,ne_eq,not_true_eq_false,not_false_eq_true,decide_true,decide_false,decide_not,Bool.not_true,Bool.not_false,h1,h2]
   exact ⟨fun _=>⟨_,rfl,by simp [ex_val]⟩,nofun⟩
 ·simp only [z0,↓reduceIte,Nat.reduceEqDiff,Nat.reduceAdd,Nat.reduceLeDiff,reduceCtorEq,s0,s1,q1,q6,q3,Int.reduceEq,Int.reduceLT,Int.reduceLE,ne_eq,not_true_eq_false,not_false_eq_true,decide_true,decide_false,decide_not,Bool.not_true,Bool.not_false,h1]
  exact ⟨fun _=>⟨_,rfl,by simp [ex_val]⟩,nofun⟩
theorem V5_ok (n:Nat) (x:Nd) {ar:Int} (ht:x.text.length<4294967296):StepF V5 V6 n x (!Go.Lib.validD x.text) 6 ar:=fun {t st c} h=>by
 obtain ⟨s0,s1,q1,q6,q3⟩:=h
 have s00:=s0
 have s11:=s1
 unfold nodeC at s0 s1
 have hble:decide (x.text.length≤9223372036854775807)=true:=decide_eq_true (by omega)
 simp only [V5,Ab.abq]
 cases h1:Go.Lib.validD x.text
 ·simp only [z0,↓reduceIte,Nat.reduceEqDiff,Nat.reduceAdd,Nat.reduceLeDiff,reduceCtorEq,s0,s1,q1,q6,q3,Int.reduceEq,Int.reduceLT,Int.reduceLE,ne_eq,not_true_eq_false,not_false_eq_true,decide_true,decide_false,decide_not,Bool.not_true,Bool.not_false,h1,fn_spec (f:=91) (g:=spValid) rfl rfl,spValid,hble]
  exact ⟨fun _=>⟨_,rfl,by simp [ex_val]⟩,nofun⟩
 ·simp only [z0,↓reduceIte,Nat.reduceEqDiff,Nat.reduceAdd,Nat.reduceLeDiff,reduceCtorEq,s0,s1,q1,q6,q3,Int.reduceEq,Int.reduceLT,Int.reduceLE,ne_eq,not_true_eq_false,not_false_eq_true,decide_true,decide_false,decide_not,Bool.not_true,Bool.not_false,h1,fn_spec (f:=91) (g:=spValid) rfl rfl,spValid,hble]
  exact ⟨nofun,fun _=>⟨_,rfl,s00,s11,by simp [ex_val,q1],by simp [ex_val,q6],by simp [ex_val,q3]⟩⟩
theorem V6_ok (n:Nat) (x:Nd) {ar:Int} {k:Nat} (hk:cntL x.text=some k) (ht:x.text.length<4294967296):StepF V6 V7 n x (decide (400<((k:Nat):Int))||(decide (x.kind=3)&&decide (400≤x.kids))) 3 ar:=fun {t st c} h=>by
 obtain ⟨s0,s1,q1,q6,q3⟩:=h
 have s00:=s0
 have s11:=s1
 unfold nodeC at s0 s1
 have h164:=c164 (n+8) hk ht
 simp only [V6,Ab.abq]
 cases h1:decide (400<((k:Nat):Int))
 ·cases h2:decide (x.kind=3)
  ·simp only [z0,↓reduceIte,Nat.reduceEqDiff,Nat.reduceAdd,Nat.reduceLeDiff,reduceCtorEq,s0,s1,q1,q6,q3,Int.reduceEq,Int.reduceLT,Int.reduceLE,ne_eq,not_true_eq_false,not_false_eq_true,decide_true,decide_false,decide_not,Bool.not_true,Bool.not_false,h1,h2,fn_pure (f:=168) rfl,ex_call,h164]
   exact ⟨nofun,fun _=>⟨_,rfl,s00,s11,by simp [ex_val,q1],by simp [ex_val,q6],by simp [ex_val,q3]⟩⟩
  ·cases h3:decide (400≤x.kids)
   ·simp only [z0,↓reduceIte,Nat.reduceEqDiff,Nat.reduceAdd,Nat.reduceLeDiff,reduceCtorEq,s0,s1,q1,q6,q3,Int.reduceEq,Int.reduceLT,Int.reduceLE,ne_eq,not_true_eq_false,not_false_eq_true,decide_true,decide_false,decide_not,Bool.not_true,Bool.not_false,h1,h2,h3,fn_pure (f:=168) rfl,ex_call,h164]
    exact ⟨nofun,fun _=>⟨_,rfl,s00,s11,by simp [ex_val,q1],by simp [ex_val,q6],by simp [ex_val,q3]⟩⟩
   ·simp only [z0,↓reduceIte,Nat.reduceEqDiff,Nat.reduceAdd,Nat.reduceLeDiff,reduceCtorEq,s0,s1,q1,q6,q3,Int.reduceEq,Int.reduceLT,Int.reduceLE,ne_eq,not_true_eq_false,not_false_eq_true,decide_true,decide_false,decide_not,Bool.not_true,Bool.not_false,h1,h2,h3,fn_pure (f:=168) rfl,ex_call,h164]
    exact ⟨fun _=>⟨_,rfl,by simp [ex_val]⟩,nofun⟩
 ·simp only [z0,↓reduceIte,Nat.reduceEqDiff,Nat.reduceAdd,Nat.reduceLeDiff,reduceCtorEq,s0,s1,q1,q6,q3,Int.reduceEq,Int.reduceLT,Int.reduceLE,ne_eq,not_true_eq_false,not_false_eq_true,decide_true,decide_false,decide_not,Bool.not_true,Bool.not_false,h1,fn_pure (f:=168) rfl,ex_call,h164]
  exact ⟨fun _=>⟨_,rfl,by simp [ex_val]⟩,nofun⟩
theorem V7_ok (n:Nat) (x:Nd) {ar:Int}:StepF V7 V8 n x ((decide (x.kind=3)&&decide (x.kids<0))||((decide (x.kind=5) && !decide (x.kids=ar))||(decide (x.kind=6)&&(decide (x.kids<1)||decide (2<x.kids))))) 23 ar:=fun {t st c} h=>by
 obtain ⟨s0,s1,q1,q6,q3⟩:=h
 have s00:=s0
 have s11:=s1
 unfold nodeC at s0 s1
 simp only [V7,Ab.abq]
 by_cases k3:x.kind=3
 ·rw [k3]
  rw [k3] at s0
  cases h1:decide (x.kids<0)
  ·simp only [z0,↓reduceIte,Nat.reduceEqDiff,Nat.reduceAdd,Nat.reduceLeDiff,reduceCtorEq,s0,s1,q1,q6,q3,Int.reduceEq,Int.reduceLT,Int.reduceLE,ne_eq,not_true_eq_false,not_false_eq_true,decide_true,decide_false,decide_not,Bool.not_true,Bool.not_false,h1]
   exact ⟨nofun,fun _=>⟨_,rfl,s00,s11,by simp [ex_val,q1],by simp [ex_val,q6],by simp [ex_val,q3]⟩⟩
  ·simp only [z0,↓reduceIte,Nat.reduceEqDiff,Nat.reduceAdd,Nat.reduceLeDiff,reduceCtorEq,s0,s1,q1,q6,q3,Int.reduceEq,Int.reduceLT,Int.reduceLE,ne_eq,not_true_eq_false,not_false_eq_true,decide_true,decide_false,decide_not,Bool.not_true,Bool.not_false,h1]
   exact ⟨fun _=>⟨_,rfl,by simp [ex_val]⟩,nofun⟩
 by_cases k5:x.kind=5
 ·rw [k5]
  rw [k5] at s0
  cases h1:decide (x.kids=ar)
  ·simp only [z0,↓reduceIte,Nat.reduceEqDiff,Nat.reduceAdd,Nat.reduceLeDiff,reduceCtorEq,s0,s1,q1,q6,q3,Int.reduceEq,Int.reduceLT,Int.reduceLE,ne_eq,not_true_eq_false,not_false_eq_true,decide_true,decide_false,decide_not,Bool.not_true,Bool.not_false,h1]
   exact ⟨fun _=>⟨_,rfl,by simp [ex_val]⟩,nofun⟩
  ·simp only [z0,↓reduceIte,Nat.reduceEqDiff,Nat.reduceAdd,Nat.reduceLeDiff,reduceCtorEq,s0,s1,q1,q6,q3,Int.reduceEq,Int.reduceLT,Int.reduceLE,ne_eq,not_true_eq_false,not_false_eq_true,decide_true,decide_false,decide_not,Bool.not_true,Bool.not_false,h1]
   exact ⟨nofun,fun _=>⟨_,rfl,s00,s11,by simp [ex_val,q1],by simp [ex_val,q6],by simp [ex_val,q3]⟩⟩
 by_cases k6:x.kind=6
 ·rw [k6]
  rw [k6] at s0
  cases h1:decide (x.kids<1)
  ·cases h2:decide (2<x.kids)
   ·simp only [z0,↓reduceIte,Nat.reduceEqDiff,Nat.reduceAdd,Nat.reduceLeDiff,reduceCtorEq,s0,s1,q1,q6,q3,Int.reduceEq,Int.reduceLT,Int.reduceLE,ne_eq,not_true_eq_false,not_false_eq_true,decide_true,decide_false,decide_not,Bool.not_true,Bool.not_false,h1,h2]
    exact ⟨nofun,fun _=>⟨_,rfl,s00,s11,by simp [ex_val,q1],by simp [ex_val,q6],by simp [ex_val,q3]⟩⟩
   ·simp only [z0,↓reduceIte,Nat.reduceEqDiff,Nat.reduceAdd,Nat.reduceLeDiff,reduceCtorEq,s0,s1,q1,q6,q3,Int.reduceEq,Int.reduceLT,Int.reduceLE,ne_eq,not_true_eq_false,not_false_eq_true,decide_true,decide_false,decide_not,Bool.not_true,Bool.not_false,h1,h2]
    exact ⟨fun _=>⟨_,rfl,by simp [ex_val]⟩,nofun⟩
  ·simp only [z0,↓reduceIte,Nat.reduceEqDiff,Nat.reduceAdd,Nat.reduceLeDiff,reduceCtorEq,s0,s1,q1,q6,q3,Int.reduceEq,Int.reduceLT,Int.reduceLE,ne_eq,not_true_eq_false,not_false_eq_true,decide_true,decide_false,decide_not,Bool.not_true,Bool.not_false,h1]
   exact ⟨fun _=>⟨_,rfl,by simp [ex_val]⟩,nofun⟩
 simp only [z0,↓reduceIte,Nat.reduceEqDiff,Nat.reduceAdd,Nat.reduceLeDiff,reduceCtorEq,s0,s1,q1,q6,q3,Int.reduceEq,Int.reduceLT,Int.reduceLE,ne_eq,not_true_eq_false,not_false_eq_true,decide_true,decide_false,decide_not,Bool.not_true,Bool.not_false,decide_eq_false k3,decide_eq_false k5,decide_eq_false k6]
 exact ⟨nofun,fun _=>⟨_,rfl,s00,s11,by simp [ex_val,q1],by simp [ex_val,q6],by simp [ex_val,q3]⟩⟩
theorem V8_ok (n:Nat) (x:Nd) {ar:Int} (hn:x.name.length<9223372036854775807):StepF V8 .skip n x ((decide (x.kind=4)||decide (x.kind=6)) && !isName x.name) 24 ar:=fun {t st c} h=>by
 obtain ⟨s0,s1,q1,q6,q3⟩:=h
 have s00:=s0
 have s11:=s1
 unfold nodeC at s0 s1
 have h61:=c61 n x.name hn
 simp only [V8,Ab.abq]
 by_cases k4:x.kind=4
 ·rw [k4]
  rw [k4] at s0
  cases h9:isName x.name
  ·simp only [z0,↓reduceIte,Nat.reduceEqDiff,Nat.reduceAdd,Nat.reduceLeDiff,reduceCtorEq,s0,s1,q1,q6,q3,Int.reduceEq,Int.reduceLT,Int.reduceLE,ne_eq,not_true_eq_false,not_false_eq_true,decide_true,decide_false,decide_not,Bool.not_true,Bool.not_false,h9,fn_pure (f:=32) rfl,ex_call,h61]
   exact ⟨fun _=>⟨_,rfl,by simp [ex_val]⟩,nofun⟩
  ·simp only [z0,↓reduceIte,Nat.reduceEqDiff,Nat.reduceAdd,Nat.reduceLeDiff,reduceCtorEq,s0,s1,q1,q6,q3,Int.reduceEq,Int.reduceLT,Int.reduceLE,ne_eq,not_true_eq_false,not_false_eq_true,decide_true,decide_false,decide_not,Bool.not_true,Bool.not_false,h9,fn_pure (f:=32) rfl,ex_call,h61]
   exact ⟨nofun,fun _=>⟨_,rfl,s00,s11,by simp [ex_val,q1],by simp [ex_val,q6],by simp [ex_val,q3]⟩⟩
 by_cases k6:x.kind=6
 ·rw [k6]
  rw [k6] at s0
  cases h9:isName x.name
  ·simp only [z0,↓reduceIte,Nat.reduceEqDiff,Nat.reduceAdd,Nat.reduceLeDiff,reduceCtorEq,s0,s1,q1,q6,q3,Int.reduceEq,Int.reduceLT,Int.reduceLE,ne_eq,not_true_eq_false,not_false_eq_true,decide_true,decide_false,decide_not,Bool.not_true,Bool.not_false,h9,fn_pure (f:=32) rfl,ex_call,h61]
   exact ⟨fun _=>⟨_,rfl,by simp [ex_val]⟩,nofun⟩
  ·simp only [z0,↓reduceIte,Nat.reduceEqDiff,Nat.reduceAdd,Nat.reduceLeDiff,reduceCtorEq,s0,s1,q1,q6,q3,Int.reduceEq,Int.reduceLT,Int.reduceLE,ne_eq,not_true_eq_false,not_false_eq_true,decide_true,decide_false,decide_not,Bool.not_true,Bool.not_false,h9,fn_pure (f:=32) rfl,ex_call,h61]
   exact ⟨nofun,fun _=>⟨_,rfl,s00,s11,by simp [ex_val,q1],by simp [ex_val,q6],by simp [ex_val,q3]⟩⟩
 simp only [z0,↓reduceIte,Nat.reduceEqDiff,Nat.reduceAdd,Nat.reduceLeDiff,reduceCtorEq,s0,s1,q1,q6,q3,Int.reduceEq,Int.reduceLT,Int.reduceLE,ne_eq,not_true_eq_false,not_false_eq_true,decide_true,decide_false,decide_not,Bool.not_true,Bool.not_false,decide_eq_false k4,decide_eq_false k6]
 exact ⟨nofun,fun _=>⟨_,rfl,s00,s11,by simp [ex_val,q1],by simp [ex_val,q6],by simp [ex_val,q3]⟩⟩
end
end Zv
namespace Zv
open Go
noncomputable section
def lateI (x:Nd):Int:=
 bif !zeroB (restX x) then 2 else
 bif decide (x.site<0)||decide (1000000000<x.site) then 7 else
 bif decide (cntI x.text<0) then 6 else
 bif decide (400<cntI x.text)||(decide (x.kind=3)&&decide (400≤x.kids)) then 3 else
 bif (decide (x.kind=3)&&decide (x.kids<0))||((decide (x.kind=5) && !decide (x.kids=arI x.prim))||(decide (x.kind=6)&&(!decide (x.kids=1) && !decide (x.kids=2)))) then 23 else
 bif (decide (x.kind=4)||decide (x.kind=6)) && !isName x.name then 24 else 0
theorem late_run (n:Nat) (x:Nd) (hn:x.name.length<9223372036854775807) (ht:x.text.length<4294967296) {ar:Int} (har:x.kind=5→ar=arI x.prim) {t:Tm} {st:St} {c:Nat} (h:StF x st t ar) :
  ∃ t',(lateI x≠0∧zC V3 (cxn (n+9)) (fn (n+9) 4096) KK ⟨t,st,c,[],none⟩ = .ok .ret ⟨t',st,c,[],none⟩∧tget t' 2 = .int .i64 (lateI x))∨(lateI x=0∧zC V3 (cxn (n+9)) (fn (n+9) 4096) KK ⟨t,st,c,[],none⟩ = .ok .normal ⟨t',st,c,[],none⟩):=by
 obtain ⟨a3,b3⟩:=V3_ok n x (c:=c) h
 cases e3 : !zeroB (restX x)
 case true=>
  obtain ⟨t',r1,r2⟩:=a3 e3
  have:lateI x=2:=by rw [lateI,e3]; rfl
  exact ⟨t',.inl ⟨by rw [this]; decide,r1,by rw [this]; exact r2⟩⟩
 obtain ⟨t3,r3,k3⟩:=b3 e3
 obtain ⟨a4,b4⟩:=V4_ok n x (c:=c) k3
 cases e4:(decide (x.site<0)||decide (1000000000<x.site))
 case true=>
  obtain ⟨t',r1,r2⟩:=a4 e4
  have:lateI x=7:=by rw [lateI,e3,e4]; rfl
  exact ⟨t',.inl ⟨by rw [this]; decide,r3.trans r1,by rw [this]; exact r2⟩⟩
 obtain ⟨t4,r4,k4⟩:=b4 e4
 obtain ⟨a5,b5⟩:=V5_ok n x ht (c:=c) k4
 have hcv:decide (cntI x.text<0) = !Go.Lib.validD x.text:=by
  rw [valid_cnt,cntI]
  cases cntL x.text with
  | none=>rfl
  | some k=>simp
 cases e5 : !Go.Lib.validD x.text
 case true=>
  obtain ⟨t',r1,r2⟩:=a5 e5
  have:lateI x=6:=by rw [lateI,e3,e4,hcv,e5]; rfl
  exact ⟨t',.inl ⟨by rw [this]; decide,r3.trans (r4.trans r1),by rw [this]; exact r2⟩⟩
 obtain ⟨t5,r5,k5⟩:=b5 e5
 obtain ⟨k,hk⟩:∃ k,cntL x.text=some k:=by
  rw [valid_cnt] at e5
  cases hc:cntL x.text with
  | none=>rw [hc] at e5; cases e5
  | some k=>exact ⟨k,rfl⟩
 have hci:cntI x.text=(k:Nat):=by rw [cntI,hk]
 obtain ⟨a6,b6⟩:=V6_ok n x hk ht (c:=c) k5
 cases e6:(decide (400<((k:Nat):Int))||(decide (x.kind=3)&&decide (400≤x.kids)))
 case true=>
  obtain ⟨t',r1,r2⟩:=a6 e6
  have:lateI x=3:=by rw [lateI,e3,e4,hcv,e5,hci,e6]; rfl
  exact ⟨t',.inl ⟨by rw [this]; decide,r3.trans (r4.trans (r5.trans r1)),by rw [this]; exact r2⟩⟩
 obtain ⟨t6,r6,k6⟩:=b6 e6
 obtain ⟨a7,b7⟩:=V7_ok n x (c:=c) k6
 have h7:((decide (x.kind=3)&&decide (x.kids<0))||((decide (x.kind=5) && !decide (x.kids=ar))||(decide (x.kind=6)&&(decide (x.kids<1)||decide (2<x.kids)))))=((decide (x.kind=3)&&decide (x.kids<0))||((decide (x.kind=5) && !decide (x.kids=arI x.prim))||(decide (x.kind=6)&&(!decide (x.kids=1) && !decide (x.kids=2))))):=by
  have e1:(decide (x.kids<1)||decide (2<x.kids))=(!decide (x.kids=1) && !decide (x.kids=2)):=by
   rw [Bool.eq_iff_iff]; simp; omega
  by_cases h5:x.kind=5
  ·rw [e1,har h5]
  ·rw [e1,decide_eq_false h5]; simp
 cases e7:((decide (x.kind=3)&&decide (x.kids<0))||((decide (x.kind=5) && !decide (x.kids=ar))||(decide (x.kind=6)&&(decide (x.kids<1)||decide (2<x.kids)))))
 case true=>
  obtain ⟨t',r1,r2⟩:=a7 e7
  have:lateI x=23:=by rw [lateI,e3,e4,hcv,e5,hci,e6,←h7,e7]; rfl
  exact ⟨t',.inl ⟨by rw [this]; decide,r3.trans (r4.trans (r5.trans (r6.trans r1))),by rw [this]; exact r2⟩⟩
 obtain ⟨t7,r7,k7⟩:=b7 e7
 obtain ⟨a8,b8⟩:=V8_ok n x hn (c:=c) k7
 cases e8:((decide (x.kind=4)||decide (x.kind=6)) && !isName x.name)
 case true=>
  obtain ⟨t',r1,r2⟩:=a8 e8
  have:lateI x=24:=by rw [lateI,e3,e4,hcv,e5,hci,e6,←h7,e7,e8]; rfl
  exact ⟨t',.inl ⟨by rw [this]; decide,r3.trans (r4.trans (r5.trans (r6.trans (r7.trans r1)))),by rw [this]; exact r2⟩⟩
 obtain ⟨t8,r8,k8⟩:=b8 e8
 have:lateI x=0:=by rw [lateI,e3,e4,hcv,e5,hci,e6,←h7,e7,e8]; rfl
 exact ⟨t8,.inr ⟨this,r3.trans (r4.trans (r5.trans (r6.trans (r7.trans r8))))⟩⟩
theorem sur_rest (x:Nd) (h:¬ (x.kind<1∨6<x.kind)):surB x=(decide (x.kind=5∧(x.prim<1∨40<x.prim)) || !zeroB (restX x)):=by
 have hb:∀ z:Int,(z==0)=decide (z=0):=fun z=>rfl
 have hl:∀ l:List UInt8,(l==[])=decide (l=[]):=fun l=>by cases l <;> simp
 obtain k|k|k|k|k|k:x.kind=1∨x.kind=2∨x.kind=3∨x.kind=4∨x.kind=5∨x.kind=6:=by omega
 all_goals (unfold surB zeroB restX; simp only [k,hb,hl,Int.reduceEq,↓reduceIte,decide_true,decide_false,Bool.not_true,Bool.not_false,Bool.true_and,Bool.false_and,Bool.and_true,Bool.or_false,Bool.false_or,Bool.true_or,true_and,false_and])
 all_goals (generalize decide (x.n=0)=b1; generalize decide (x.text=[])=b2; generalize decide (x.name=[])=b3; generalize decide (x.prim=0)=b4; generalize decide (x.kids=0)=b5; generalize decide (x.prim<1∨40<x.prim)=b6; cases b1 <;> cases b2 <;> cases b3 <;> cases b4 <;> cases b5 <;> cases b6 <;> rfl)
theorem wrong_late (x:Nd):wrongI x=if x.kind<1∨6<x.kind then 2 else if x.kind=5∧(x.prim<1∨40<x.prim) then 2 else lateI x:=by
 by_cases h:x.kind<1∨6<x.kind
 ·rw [if_pos h,wrongI]
  have:(decide (x.kind<1)||(decide (6<x.kind)||surB x))=true:=by
   rcases h with h|h <;> simp [h]
  rw [this]; rfl
 ·rw [if_neg h]
  have h1:decide (x.kind<1)=false:=decide_eq_false fun h'=>h (.inl h')
  have h2:decide (6<x.kind)=false:=decide_eq_false fun h'=>h (.inr h')
  have hs:=sur_rest x h
  rw [wrongI,h1,h2,hs,Bool.false_or,Bool.false_or]
  by_cases h5:x.kind=5∧(x.prim<1∨40<x.prim)
  ·rw [if_pos h5,decide_eq_true h5]; rfl
  ·rw [if_neg h5,decide_eq_false h5,Bool.false_or,lateI]
theorem c119 (n:Nat) (x:Nd) (hn:x.name.length<9223372036854775807) (ht:x.text.length<4294967296):cl (n+9) 95 [.agg (nodeC x)]=some (.int .i64 (wrongI x),true):=by
 rw [cl_run (A:=A95) rfl (n+9) _ rfl,show A95.body=B95 from rfl,B119_eq,wrong_late]
 simp only [V1,V2,Ab.abq]
 have htk:takeAt [.int .i64 x.kind,.int .i64 x.prim,.int .i64 x.kids,.str x.name,.str x.text,.int .i64 x.n,.int .i64 x.site] 0 (some 7)=some (.agg (nodeC x)):=rfl
 have hfz:∀ st,[D.agg (nodeC x)].mapM (frz false 20 st)=some [D.agg (nodeC x)]:=fun _=>rfl
 have h123:=c123 (n+8) x
 have hl7:(nodeC (restX x)).length=7:=rfl
 have hna:(nodeC (restX x)).any isAg=false:=rfl
 have hset:setAt [.int .i64 0,.int .i64 0,.int .i64 0,.str [],.str [],.int .i64 0,.int .i64 0] 0 (nodeC (restX x))=nodeC (restX x):=rfl
 by_cases h1:x.kind<1
 ·rw [if_pos (.inl h1)]
  unfold nodeC
  simp only [z0,↓reduceIte,Nat.reduceEqDiff,Nat.reduceAdd,Nat.reduceLeDiff,reduceCtorEq,decide_eq_true h1,A95]; rfl
 by_cases h2:6<x.kind
 ·rw [if_pos (.inr h2)]
  unfold nodeC
  simp only [z0,↓reduceIte,Nat.reduceEqDiff,Nat.reduceAdd,Nat.reduceLeDiff,reduceCtorEq,decide_eq_false h1,decide_eq_true h2,A95]; rfl
 rw [if_neg (fun h=>h.elim h1 h2)]
 have fin:∀ (ar:Int) (T:Tm) (S:St) (c:Nat),(x.kind=5→ar=arI x.prim)→StF x S T ar→pout (zbody (dfn (n+9) MM) A95 (zbind (zblkR 0 (zC V3 (cxn (n+9)) (fn (n+9) 4096) KK ⟨T,S,c,[],none⟩)) (zC (.seq (.reg none [⟨some 2,.mv (.c (.int .i64 0)),none⟩]) .ret) (cxn (n+9)) (fn (n+9) 4096) KK)))=some (.int .i64 (lateI x),true):=fun ar T S c har hst=>by
  obtain ⟨t',⟨h0,r1,r2⟩|⟨h0,r1⟩⟩:=late_run n x hn ht har (c:=c) hst
  ·simp only [z0,↓reduceIte,Nat.reduceEqDiff,Nat.reduceAdd,Nat.reduceLeDiff,reduceCtorEq,r1,r2,A95]; rfl
  ·simp only [z0,↓reduceIte,Nat.reduceEqDiff,Nat.reduceAdd,Nat.reduceLeDiff,reduceCtorEq,r1,A95]
   rw [h0]; rfl
 by_cases h5:x.kind=5
 ·rcases ar_cases x.prim with ⟨a,hf,hr,_⟩|⟨hf,hr⟩
  ·rw [if_neg (fun h=>hr h.2)]
   have har:arI x.prim=a:=by rw [arI,hf]; rfl
   have htk5:takeAt [.int .i64 5,.int .i64 x.prim,.int .i64 x.kids,.str x.name,.str x.text,.int .i64 x.n,.int .i64 x.site] 0 (some 7)=some (.agg (nodeC x)):=by rw [←h5]; rfl
   unfold nodeC
   simp only [z2,↓reduceIte,Nat.reduceEqDiff,Nat.reduceAdd,Nat.reduceLeDiff,reduceCtorEq,h5,Int.reduceLT,decide_true,decide_false,fn_pure (f:=167) rfl,ex_call,c163 (n+4) x.prim,hf,namesD_e2,ne_eq,not_true_eq_false,eq_self,htk5]
   simp only [z2,↓reduceIte,Nat.reduceEqDiff,Nat.reduceAdd,Nat.reduceLeDiff,reduceCtorEq,fn_pure (f:=99) rfl,ex_call,hfz,h123,hl7,hna,hset,Nat.reduceLeDiff,Option.map_some]
   refine fin a _ _ _ (fun _=>har.symm) ⟨?_,?_,?_,?_,?_⟩
   ·simp [ex_val]; rw [nodeC,h5]
   all_goals simp [ex_val]
  ·rw [if_pos ⟨h5,hr⟩]
   unfold nodeC
   simp only [z2,↓reduceIte,Nat.reduceEqDiff,Nat.reduceAdd,Nat.reduceLeDiff,reduceCtorEq,h5,Int.reduceLT,decide_true,decide_false,fn_pure (f:=167) rfl,ex_call,c163 (n+4) x.prim,hf,namesD_e2,ne_eq,Int.reduceEq,not_false_eq_true,A95]
   rfl
 ·rw [if_neg (fun h=>h5 h.1)]
  unfold nodeC
  simp only [z2,↓reduceIte,Nat.reduceEqDiff,Nat.reduceAdd,Nat.reduceLeDiff,reduceCtorEq,decide_eq_false h1,decide_eq_false h2,decide_eq_false h5,htk]
  simp only [z2,↓reduceIte,Nat.reduceEqDiff,Nat.reduceAdd,Nat.reduceLeDiff,reduceCtorEq,fn_pure (f:=99) rfl,ex_call,hfz,h123,hl7,hna,hset,Nat.reduceLeDiff,Option.map_some]
  refine fin 0 _ _ _ (fun h=>absurd h h5) ⟨?_,?_,?_,?_,?_⟩
  ·simp [ex_val]; rfl
  all_goals simp [ex_val]
end
end Zv
