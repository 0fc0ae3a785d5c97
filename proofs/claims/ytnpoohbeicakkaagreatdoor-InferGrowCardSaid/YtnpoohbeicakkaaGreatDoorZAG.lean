/- Operations that only look: what they come to depends on what they look at. Conditions: none. -/
import Derived.Test.YtnpoohbeicakkaaGreatDoorZAF
set_option linter.unusedSimpArgs false
set_option linter.unusedVariables false
namespace Zv
open Go
theorem dI{G:List (Nat×List D)}{t t':Tm}{a:Arg}(h:∀n∈a.tmps,tget t' n=tget t n):a.ev G t'=a.ev G t:=by
 cases a with
 | t n=>exact h n (by simp[Arg.tmps])
 | c d=>rfl
 | g n=>rfl
 | f n=>rfl
theorem lO{G:List (Nat×List D)}{t t':Tm}{a:Option Arg}(h:∀n∈nT a,tget t' n=tget t n):a.map (·.ev G t')=a.map (·.ev G t):=by
 cases a with
 | none=>rfl
 | some a=>exact congrArg some (dI h)
theorem evL_congr{G:List (Nat×List D)}{t t':Tm}{l:List Arg}(h:∀n∈mE l,tget t' n=tget t n):l.map (·.ev G t')=l.map (·.ev G t):=
 List.map_congr_left fun a ha=>dI fun n hn=>h n (List.mem_flatMap.2 ⟨a,ha,hn⟩)
theorem parts_congr{G:List (Nat×List D)}{t t':Tm}{l:List (Nat×Nat×Arg)}(h:∀n∈partsTmps l,tget t' n=tget t n):parts G t' l=parts G t l:=
 List.map_congr_left fun p hp=>by
  rw[dI fun n hn=>h n (List.mem_flatMap.2 ⟨p,hp,hn⟩)]
theorem step_quiet{G:List (Nat×List D)}{op:AOp}(hk:op.kd=0){x x':AS}{d:D}(h:step G op x=some (d,x')):x'=x:=by
 cases op<;>first
  | (simp[AOp.kd]at hk;done)
  | skip
 all_goals
  try simp only[stq,aB]at h
  repeat' (first|contradiction|(cases h;rfl)|(split at h)|(simp only[aA,aG,cond_eq_ite]at h)|(obtain⟨_,_,h⟩:=h))
theorem alloc_t{G:List (Nat×List D)}{op:AOp}{t t':Tm}(h:∀n∈op.tmps,tget t' n=tget t n):cT G op t'=cT G op t:=by
 cases op<;>try rfl
 case new a=>
  have e0:a.ev G t'=a.ev G t:=dI fun n hn=>h n (by simp[AOp.tmps,hn])
  simp only[cT,e0]
 case bsl len sz cells ps=>
  have e0:parts G t' ps=parts G t ps:=parts_congr fun n hn=>h n (by simp[AOp.tmps,hn])
  simp only[cT,e0]
 case mks sz bytes zero l c=>
  have e0:l.ev G t'=l.ev G t:=dI fun n hn=>h n (by simp[AOp.tmps,hn])
  have e1:c.ev G t'=c.ev G t:=dI fun n hn=>h n (by simp[AOp.tmps,hn])
  simp only[cT,e0,e1]
theorem step_t{G:List (Nat×List D)}{op:AOp}(hk:op.kd=0){t t':Tm}{s:St}{c c':Nat}{dl dl':List (D×List D)}{r r':Option Nat}{v:D}(h:∀n∈op.tmps,tget t' n=tget t n)
  (hs:step G op ⟨t,s,c,dl,r⟩=some (v,⟨t,s,c,dl,r⟩)):step G op ⟨t',s,c',dl',r'⟩=some (v,⟨t',s,c',dl',r'⟩):=by
 cases op<;>first
  | (simp[AOp.kd]at hk;done)
  | skip
 case mv y0=>
  have e0:y0.ev G t'=y0.ev G t:=dI fun n hn=>h n (by simp[AOp.tmps,hn])
  simp only[gI,wP,aB,e0]at hs ⊢
  repeat' (first|contradiction|(cases hs;rfl)|(simp only[cond_eq_ite]at hs ⊢;done)|(simp only[cond_eq_ite]at hs ⊢)|(simp only[aA,aG]at hs ⊢)|(obtain⟨p,hp,hs⟩:=hs;refine⟨p,hp,?_⟩)|(split at hs<;>first|contradiction|(rename_i hcond;first|rw[aH hcond]|rw[aD hcond]|(simp only[hcond]))|(simp_all only[]))|(cases hs;simp_all;done))
 case pick y0 y1 y2=>
  have e0:y0.ev G t'=y0.ev G t:=dI fun n hn=>h n (by simp[AOp.tmps,hn])
  have e1:y1.ev G t'=y1.ev G t:=dI fun n hn=>h n (by simp[AOp.tmps,hn])
  have e2:y2.ev G t'=y2.ev G t:=dI fun n hn=>h n (by simp[AOp.tmps,hn])
  simp only[jE,nP,aB,e0,e1,e2]at hs ⊢
  repeat' (first|contradiction|(cases hs;rfl)|(simp only[cond_eq_ite]at hs ⊢;done)|(simp only[cond_eq_ite]at hs ⊢)|(simp only[aA,aG]at hs ⊢)|(obtain⟨p,hp,hs⟩:=hs;refine⟨p,hp,?_⟩)|(split at hs<;>first|contradiction|(rename_i hcond;first|rw[aH hcond]|rw[aD hcond]|(simp only[hcond]))|(simp_all only[]))|(cases hs;simp_all;done))
 case ld y0 y1=>
  have e1:y1.ev G t'=y1.ev G t:=dI fun n hn=>h n (by simp[AOp.tmps,hn])
  simp only[gJ,wR,aB,e1]at hs ⊢
  repeat' (first|contradiction|(cases hs;rfl)|(simp only[cond_eq_ite]at hs ⊢;done)|(simp only[cond_eq_ite]at hs ⊢)|(simp only[aA,aG]at hs ⊢)|(obtain⟨p,hp,hs⟩:=hs;refine⟨p,hp,?_⟩)|(split at hs<;>first|contradiction|(rename_i hcond;first|rw[aH hcond]|rw[aD hcond]|(simp only[hcond]))|(simp_all only[]))|(cases hs;simp_all;done))
 case fa y0 y1=>
  have e1:y1.ev G t'=y1.ev G t:=dI fun n hn=>h n (by simp[AOp.tmps,hn])
  simp only[iK,wT,aB,e1]at hs ⊢
  repeat' (first|contradiction|(cases hs;rfl)|(simp only[cond_eq_ite]at hs ⊢;done)|(simp only[cond_eq_ite]at hs ⊢)|(simp only[aA,aG]at hs ⊢)|(obtain⟨p,hp,hs⟩:=hs;refine⟨p,hp,?_⟩)|(split at hs<;>first|contradiction|(rename_i hcond;first|rw[aH hcond]|rw[aD hcond]|(simp only[hcond]))|(simp_all only[]))|(cases hs;simp_all;done))
 case iaA y0 y1 y2 y3=>
  have e2:y2.ev G t'=y2.ev G t:=dI fun n hn=>h n (by simp[AOp.tmps,hn])
  have e3:y3.ev G t'=y3.ev G t:=dI fun n hn=>h n (by simp[AOp.tmps,hn])
  simp only[mU,qN,aB,e2,e3]at hs ⊢
  repeat' (first|contradiction|(cases hs;rfl)|(simp only[cond_eq_ite]at hs ⊢;done)|(simp only[cond_eq_ite]at hs ⊢)|(simp only[aA,aG]at hs ⊢)|(obtain⟨p,hp,hs⟩:=hs;refine⟨p,hp,?_⟩)|(split at hs<;>first|contradiction|(rename_i hcond;first|rw[aH hcond]|rw[aD hcond]|(simp only[hcond]))|(simp_all only[]))|(cases hs;simp_all;done))
 case iaS y0 y1 y2=>
  have e1:y1.ev G t'=y1.ev G t:=dI fun n hn=>h n (by simp[AOp.tmps,hn])
  have e2:y2.ev G t'=y2.ev G t:=dI fun n hn=>h n (by simp[AOp.tmps,hn])
  simp only[iF,qM,aB,e1,e2]at hs ⊢
  repeat' (first|contradiction|(cases hs;rfl)|(simp only[cond_eq_ite]at hs ⊢;done)|(simp only[cond_eq_ite]at hs ⊢)|(simp only[aA,aG]at hs ⊢)|(obtain⟨p,hp,hs⟩:=hs;refine⟨p,hp,?_⟩)|(split at hs<;>first|contradiction|(rename_i hcond;first|rw[aH hcond]|rw[aD hcond]|(simp only[hcond]))|(simp_all only[]))|(cases hs;simp_all;done))
 case ixA y0 y1 y2 y3 y4=>
  have e3:y3.ev G t'=y3.ev G t:=dI fun n hn=>h n (by simp[AOp.tmps,hn])
  have e4:y4.ev G t'=y4.ev G t:=dI fun n hn=>h n (by simp[AOp.tmps,hn])
  simp only[sF,qL,aB,e3,e4]at hs ⊢
  repeat' (first|contradiction|(cases hs;rfl)|(simp only[cond_eq_ite]at hs ⊢;done)|(simp only[cond_eq_ite]at hs ⊢)|(simp only[aA,aG]at hs ⊢)|(obtain⟨p,hp,hs⟩:=hs;refine⟨p,hp,?_⟩)|(split at hs<;>first|contradiction|(rename_i hcond;first|rw[aH hcond]|rw[aD hcond]|(simp only[hcond]))|(simp_all only[]))|(cases hs;simp_all;done))
 case ixS y0 y1=>
  have e0:y0.ev G t'=y0.ev G t:=dI fun n hn=>h n (by simp[AOp.tmps,hn])
  have e1:y1.ev G t'=y1.ev G t:=dI fun n hn=>h n (by simp[AOp.tmps,hn])
  simp only[step_ixS,qK,aB,e0,e1]at hs ⊢
  repeat' (first|contradiction|(cases hs;rfl)|(simp only[cond_eq_ite]at hs ⊢;done)|(simp only[cond_eq_ite]at hs ⊢)|(simp only[aA,aG]at hs ⊢)|(obtain⟨p,hp,hs⟩:=hs;refine⟨p,hp,?_⟩)|(split at hs<;>first|contradiction|(rename_i hcond;first|rw[aH hcond]|rw[aD hcond]|(simp only[hcond]))|(simp_all only[]))|(cases hs;simp_all;done))
 case fld y0 y1 y2=>
  simp only[wJ,pC]at hs;cases hs
 case ext y0 y1=>
  have e1:y1.ev G t'=y1.ev G t:=dI fun n hn=>h n (by simp[AOp.tmps,hn])
  simp only[sG,qO,aB,e1]at hs ⊢
  repeat' (first|contradiction|(cases hs;rfl)|(simp only[cond_eq_ite]at hs ⊢;done)|(simp only[cond_eq_ite]at hs ⊢)|(simp only[aA,aG]at hs ⊢)|(obtain⟨p,hp,hs⟩:=hs;refine⟨p,hp,?_⟩)|(split at hs<;>first|contradiction|(rename_i hcond;first|rw[aH hcond]|rw[aD hcond]|(simp only[hcond]))|(simp_all only[]))|(cases hs;simp_all;done))
 case bin y0 y1 y2=>
  have e1:y1.ev G t'=y1.ev G t:=dI fun n hn=>h n (by simp[AOp.tmps,hn])
  have e2:y2.ev G t'=y2.ev G t:=dI fun n hn=>h n (by simp[AOp.tmps,hn])
  simp only[fC,qU,aB,e1,e2]at hs ⊢
  repeat' (first|contradiction|(cases hs;rfl)|(simp only[cond_eq_ite]at hs ⊢;done)|(simp only[cond_eq_ite]at hs ⊢)|(simp only[aA,aG]at hs ⊢)|(obtain⟨p,hp,hs⟩:=hs;refine⟨p,hp,?_⟩)|(split at hs<;>first|contradiction|(rename_i hcond;first|rw[aH hcond]|rw[aD hcond]|(simp only[hcond]))|(simp_all only[]))|(cases hs;simp_all;done))
 case cmp y0 y1 y2 y3=>
  have e2:y2.ev G t'=y2.ev G t:=dI fun n hn=>h n (by simp[AOp.tmps,hn])
  have e3:y3.ev G t'=y3.ev G t:=dI fun n hn=>h n (by simp[AOp.tmps,hn])
  simp only[sH,qS,aB,e2,e3]at hs ⊢
  repeat' (first|contradiction|(cases hs;rfl)|(simp only[cond_eq_ite]at hs ⊢;done)|(simp only[cond_eq_ite]at hs ⊢)|(simp only[aA,aG]at hs ⊢)|(obtain⟨p,hp,hs⟩:=hs;refine⟨p,hp,?_⟩)|(split at hs<;>first|contradiction|(rename_i hcond;first|rw[aH hcond]|rw[aD hcond]|(simp only[hcond]))|(simp_all only[]))|(cases hs;simp_all;done))
 case un y0 y1=>
  have e1:y1.ev G t'=y1.ev G t:=dI fun n hn=>h n (by simp[AOp.tmps,hn])
  simp only[lW,wO,aB,e1]at hs ⊢
  repeat' (first|contradiction|(cases hs;rfl)|(simp only[cond_eq_ite]at hs ⊢;done)|(simp only[cond_eq_ite]at hs ⊢)|(simp only[aA,aG]at hs ⊢)|(obtain⟨p,hp,hs⟩:=hs;refine⟨p,hp,?_⟩)|(split at hs<;>first|contradiction|(rename_i hcond;first|rw[aH hcond]|rw[aD hcond]|(simp only[hcond]))|(simp_all only[]))|(cases hs;simp_all;done))
 case bld y0 y1=>
  have e1:parts G t' y1=parts G t y1:=parts_congr fun n hn=>h n (by simp[AOp.tmps,hn])
  simp only[fL,qT,aB,e1]at hs ⊢
  repeat' (first|contradiction|(cases hs;rfl)|(simp only[cond_eq_ite]at hs ⊢;done)|(simp only[cond_eq_ite]at hs ⊢)|(simp only[aA,aG]at hs ⊢)|(obtain⟨p,hp,hs⟩:=hs;refine⟨p,hp,?_⟩)|(split at hs<;>first|contradiction|(rename_i hcond;first|rw[aH hcond]|rw[aD hcond]|(simp only[hcond]))|(simp_all only[]))|(cases hs;simp_all;done))
 case slS y0 y1 y2=>
  have e0:y0.ev G t'=y0.ev G t:=dI fun n hn=>h n (by simp[AOp.tmps,hn])
  have e1:y1.map (·.ev G t')=y1.map (·.ev G t):=lO fun n hn=>h n (by simp[AOp.tmps,hn])
  have e2:y2.map (·.ev G t')=y2.map (·.ev G t):=lO fun n hn=>h n (by simp[AOp.tmps,hn])
  simp only[wF,qE,aB,e0,e1,e2]at hs ⊢
  repeat' (first|contradiction|(cases hs;rfl)|(simp only[cond_eq_ite]at hs ⊢;done)|(simp only[cond_eq_ite]at hs ⊢)|(simp only[aA,aG]at hs ⊢)|(obtain⟨p,hp,hs⟩:=hs;refine⟨p,hp,?_⟩)|(split at hs<;>first|contradiction|(rename_i hcond;first|rw[aH hcond]|rw[aD hcond]|(simp only[hcond]))|(simp_all only[]))|(cases hs;simp_all;done))
 case slV y0 y1 y2 y3 y4=>
  have e1:y1.ev G t'=y1.ev G t:=dI fun n hn=>h n (by simp[AOp.tmps,hn])
  have e2:y2.map (·.ev G t')=y2.map (·.ev G t):=lO fun n hn=>h n (by simp[AOp.tmps,hn])
  have e3:y3.map (·.ev G t')=y3.map (·.ev G t):=lO fun n hn=>h n (by simp[AOp.tmps,hn])
  have e4:y4.map (·.ev G t')=y4.map (·.ev G t):=lO fun n hn=>h n (by simp[AOp.tmps,hn])
  cases y4 <;>
  simp only[sD,qD,aB,e1,e2,e3,e4]at hs ⊢
  all_goals
   repeat' (first|contradiction|(cases hs;rfl)|(simp only[cond_eq_ite]at hs ⊢;done)|(simp only[cond_eq_ite]at hs ⊢)|(simp only[aA,aG]at hs ⊢)|(obtain⟨p,hp,hs⟩:=hs;refine⟨p,hp,?_⟩)|(split at hs<;>first|contradiction|(rename_i hcond;first|rw[aH hcond]|rw[aD hcond]|(simp only[hcond]))|(simp_all only[]))|(cases hs;simp_all;done))
 case slA y0 y1 y2 y3 y4 y5=>
  have e2:y2.ev G t'=y2.ev G t:=dI fun n hn=>h n (by simp[AOp.tmps,hn])
  have e3:y3.map (·.ev G t')=y3.map (·.ev G t):=lO fun n hn=>h n (by simp[AOp.tmps,hn])
  have e4:y4.map (·.ev G t')=y4.map (·.ev G t):=lO fun n hn=>h n (by simp[AOp.tmps,hn])
  have e5:y5.map (·.ev G t')=y5.map (·.ev G t):=lO fun n hn=>h n (by simp[AOp.tmps,hn])
  simp only[eC,jU,aB,e2,e3,e4,e5]at hs ⊢
  repeat' (first|contradiction|(cases hs;rfl)|(simp only[cond_eq_ite]at hs ⊢;done)|(simp only[cond_eq_ite]at hs ⊢)|(simp only[aA,aG]at hs ⊢)|(obtain⟨p,hp,hs⟩:=hs;refine⟨p,hp,?_⟩)|(split at hs<;>first|contradiction|(rename_i hcond;first|rw[aH hcond]|rw[aD hcond]|(simp only[hcond]))|(simp_all only[]))|(cases hs;simp_all;done))
 case len y0 y1=>
  have e1:y1.ev G t'=y1.ev G t:=dI fun n hn=>h n (by simp[AOp.tmps,hn])
  simp only[sE,qJ,e1]at hs ⊢;cases hl:lenD y0 (y1.ev G t) with
  | none=>rw[hl]at hs;cases hs
  | some n=>rw[hl]at hs;cases hs;rfl
 case cap y0=>
  simp only[wM,pF]at hs;cases hs
 case cvI y0 y1=>
  have e1:y1.ev G t'=y1.ev G t:=dI fun n hn=>h n (by simp[AOp.tmps,hn])
  simp only[jQ,qQ,aB,e1]at hs ⊢
  repeat' (first|contradiction|(cases hs;rfl)|(simp only[cond_eq_ite]at hs ⊢;done)|(simp only[cond_eq_ite]at hs ⊢)|(simp only[aA,aG]at hs ⊢)|(obtain⟨p,hp,hs⟩:=hs;refine⟨p,hp,?_⟩)|(split at hs<;>first|contradiction|(rename_i hcond;first|rw[aH hcond]|rw[aD hcond]|(simp only[hcond]))|(simp_all only[]))|(cases hs;simp_all;done))
 case cvN y0=>
  have e0:y0.ev G t'=y0.ev G t:=dI fun n hn=>h n (by simp[AOp.tmps,hn])
  simp only[step_cvN,qP,aB,e0]at hs ⊢
  repeat' (first|contradiction|(cases hs;rfl)|(simp only[cond_eq_ite]at hs ⊢;done)|(simp only[cond_eq_ite]at hs ⊢)|(simp only[aA,aG]at hs ⊢)|(obtain⟨p,hp,hs⟩:=hs;refine⟨p,hp,?_⟩)|(split at hs<;>first|contradiction|(rename_i hcond;first|rw[aH hcond]|rw[aD hcond]|(simp only[hcond]))|(simp_all only[]))|(cases hs;simp_all;done))
 case cvS y0=>
  simp only[wL,pE]at hs;cases hs
 case mkif y0 y1=>
  have e1:y1.ev G t'=y1.ev G t:=dI fun n hn=>h n (by simp[AOp.tmps,hn])
  simp only[step_mkif,nR,aB,e1]at hs ⊢
  repeat' (first|contradiction|(cases hs;rfl)|(simp only[cond_eq_ite]at hs ⊢;done)|(simp only[cond_eq_ite]at hs ⊢)|(simp only[aA,aG]at hs ⊢)|(obtain⟨p,hp,hs⟩:=hs;refine⟨p,hp,?_⟩)|(split at hs<;>first|contradiction|(rename_i hcond;first|rw[aH hcond]|rw[aD hcond]|(simp only[hcond]))|(simp_all only[]))|(cases hs;simp_all;done))
 case mkfn y0 y1 y2=>
  have e1:y1.map (·.ev G t')=y1.map (·.ev G t):=evL_congr fun n hn=>h n (by simp[AOp.tmps,hn])
  have e2:y2.map (·.ev G t')=y2.map (·.ev G t):=evL_congr fun n hn=>h n (by simp[AOp.tmps,hn])
  simp only[step_mkfn,nS,aB,e1,e2]at hs ⊢
  repeat' (first|contradiction|(cases hs;rfl)|(simp only[cond_eq_ite]at hs ⊢;done)|(simp only[cond_eq_ite]at hs ⊢)|(simp only[aA,aG]at hs ⊢)|(obtain⟨p,hp,hs⟩:=hs;refine⟨p,hp,?_⟩)|(split at hs<;>first|contradiction|(rename_i hcond;first|rw[aH hcond]|rw[aD hcond]|(simp only[hcond]))|(simp_all only[]))|(cases hs;simp_all;done))
 case nilc y0=>
  have e0:y0.ev G t'=y0.ev G t:=dI fun n hn=>h n (by simp[AOp.tmps,hn])
  simp only[dP,nQ,aB,e0]at hs ⊢
  repeat' (first|contradiction|(cases hs;rfl)|(simp only[cond_eq_ite]at hs ⊢;done)|(simp only[cond_eq_ite]at hs ⊢)|(simp only[aA,aG]at hs ⊢)|(obtain⟨p,hp,hs⟩:=hs;refine⟨p,hp,?_⟩)|(split at hs<;>first|contradiction|(rename_i hcond;first|rw[aH hcond]|rw[aD hcond]|(simp only[hcond]))|(simp_all only[]))|(cases hs;simp_all;done))
 case mm y0 y1 y2=>
  have e1:y1.ev G t'=y1.ev G t:=dI fun n hn=>h n (by simp[AOp.tmps,hn])
  have e2:y2.ev G t'=y2.ev G t:=dI fun n hn=>h n (by simp[AOp.tmps,hn])
  simp only[step_mm,wQ,aB,e1,e2]at hs ⊢
  repeat' (first|contradiction|(cases hs;rfl)|(simp only[cond_eq_ite]at hs ⊢;done)|(simp only[cond_eq_ite]at hs ⊢)|(simp only[aA,aG]at hs ⊢)|(obtain⟨p,hp,hs⟩:=hs;refine⟨p,hp,?_⟩)|(split at hs<;>first|contradiction|(rename_i hcond;first|rw[aH hcond]|rw[aD hcond]|(simp only[hcond]))|(simp_all only[]))|(cases hs;simp_all;done))
 case mlk y0 y1 y2 y3 y4=>
  have e3:y3.ev G t'=y3.ev G t:=dI fun n hn=>h n (by simp[AOp.tmps,hn])
  have e4:y4.ev G t'=y4.ev G t:=dI fun n hn=>h n (by simp[AOp.tmps,hn])
  simp only[wH,pA,e3,e4]at hs ⊢;generalize y3.ev G t=q at hs ⊢;cases q<;>try contradiction
  ·simp only at hs ⊢;cases hm:mfind y2 (y4.ev G t) [] 0 with
   | none=>rw[hm]at hs;cases hs
   | some o=>rw[hm]at hs;cases hs;rfl
  ·rename_i nm;simp only at hs ⊢;cases hg:sget s nm with
   | none=>rw[hg]at hs;cases hs
   | some b=>
    rw[hg]at hs;cases b<;>try contradiction
    rename_i es c;simp only at hs ⊢;cases hm:mfind y2 (y4.ev G t) es 0 with
    | none=>rw[hm]at hs;cases hs
    | some o=>
     rw[hm]at hs;cases o with
     | none=>cases hs;rfl
     | some p=>cases hs;rfl
 case mln y0=>
  simp only[wG,oZ]at hs;cases hs
 case ent y0=>
  have e0:y0.ev G t'=y0.ev G t:=dI fun n hn=>h n (by simp[AOp.tmps,hn])
  simp only[wK,pD,e0]at hs ⊢;generalize y0.ev G t=q at hs ⊢;cases q<;>try contradiction
  rename_i nm;simp only at hs ⊢;cases hg:sget s nm with
  | none=>rw[hg]at hs;cases hs
  | some b=>
   rw[hg]at hs;cases b<;>try contradiction
   rename_i mo since seen last;cases mo with
   | none=>cases hs
   | some m=>
    simp only at hs ⊢;cases hg2:sget s m with
    | none=>rw[hg2]at hs;cases hs
    | some b2=>
     rw[hg2]at hs;cases hl:seen.getLast? with
     | none=>rw[hl]at hs;cases b2<;>cases hs
     | some bn=>
      rw[hl]at hs;cases b2<;>try contradiction
      rename_i es c;simp only at hs ⊢;cases hc:Nat.beq c last<;>rw[hc]at hs
      ·cases hs
      ·simp only[aS]at hs ⊢;cases hf:es.filter (fun e=>Nat.beq e.2.2 bn) with
       | nil=>rw[hf]at hs;cases hs
       | cons p r=>rw[hf]at hs;cases hs;rfl
 case tas y0 y1 y2 y3=>
  have e3:y3.ev G t'=y3.ev G t:=dI fun n hn=>h n (by simp[AOp.tmps,hn])
  simp only[wE,oY,aB,e3]at hs ⊢
  repeat' (first|contradiction|(cases hs;rfl)|(simp only[cond_eq_ite]at hs ⊢;done)|(simp only[cond_eq_ite]at hs ⊢)|(simp only[aA,aG]at hs ⊢)|(obtain⟨p,hp,hs⟩:=hs;refine⟨p,hp,?_⟩)|(split at hs<;>first|contradiction|(rename_i hcond;first|rw[aH hcond]|rw[aD hcond]|(simp only[hcond]))|(simp_all only[]))|(cases hs;simp_all;done))
 case xl k l=>
  have e0:l.map (·.ev G t')=l.map (·.ev G t):=evL_congr fun n hn=>h n (by simpa[AOp.tmps]using hn)
  simp only[wD,sI,e0,aG,dZ]at hs ⊢;obtain⟨d,hd,rfl,_⟩:=hs;simp[hd]
 case tai y0 y1 y2=>
  have e2:y2.ev G t'=y2.ev G t:=dI fun n hn=>h n (by simp[AOp.tmps,hn])
  simp only[step_tai,qC,wD,sI,step_xa,wN,aB,e2]at hs ⊢
  repeat' (first|contradiction|(cases hs;rfl)|(simp only[cond_eq_ite]at hs ⊢;done)|(simp only[cond_eq_ite]at hs ⊢)|(simp only[aA,aG]at hs ⊢)|(obtain⟨p,hp,hs⟩:=hs;refine⟨p,hp,?_⟩)|(split at hs<;>first|contradiction|(rename_i hcond;first|rw[aH hcond]|rw[aD hcond]|(simp only[hcond]))|(simp_all only[]))|(cases hs;simp_all;done))
abbrev Ent:=Nat×Nat×cR
def xN(pre:List (Nat×cR)):List Nat:=(pre.filter fun p=>Nat.beq p.2.op.kd 2).map (·.1)
def vR(n:Nat)(anc:List Nat)(az:List cR):List Ent→List (Nat×cR)→Prop
 | [],pre=>∀j,j<n→j∈pre.map (·.1)
 | (i,k,o)::r,pre=>az[i]?=some o∧i<n∧i∉pre.map (·.1)∧(∀j,(anc.getD i 0).testBit j=true→j∈pre.map (·.1)) ∧
   (o.op.kd=2→∀j∈pre.map (·.1),(anc.getD i 0).testBit j=true)∧(o.op.kd≠2→∀e∈(xN pre).drop k,(anc.getD i 0).testBit e=true) ∧
   (∀d,o.dst=some d→d∉o.tmps) ∧
   (∀p∈pre,(∀d,o.dst=some d→p.2.dst≠some d)∧((anc.getD i 0).testBit p.1=true∨((∀d,o.dst=some d→d∉p.2.tmps)∧∀d,p.2.dst=some d→d∉o.tmps))) ∧
   vR n anc az r ((i,o)::pre)
theorem mskM_bit{o:cR}{t:Nat}(h:t∈o.tmps):(mskM o).testBit t=true:=by
 have key:∀(l:List Nat) (m:Nat),(m.testBit t=true∨t∈l)→(l.foldl (fun m t=>m ||| 2 ^ t) m).testBit t=true:=by
  intro l
  induction l with
  | nil=>intro m h;rcases h with h|h;exact h;cases h
  | cons u l ih=>
   intro m h;rw[List.foldl_cons];apply ih;rcases h with h|h
   ·left;simp[Nat.testBit_or,h]
   ·rcases bL.1 h with rfl|h
    ·left;simp[Nat.testBit_or,Nat.testBit_two_pow]
    ·exact .inr h
 exact key _ 0 (.inr h)
theorem tJ{o:cR}{d:Nat}(h:o.dst=some d):(dstM o).testBit d=true:=by
 simp[dstM,h,Nat.testBit_two_pow]
theorem xX{a b t:Nat}(h:Nat.beq (a&&&b) 0=true)(ha:a.testBit t=true)(hb:b.testBit t=true):False:=by
 have h':=aR h;have:=congrArg (fun m=>m.testBit t) h'
 simp[Nat.testBit_and,ha,hb]at this
theorem xA(n:Nat)(anc:List Nat)(az:List cR):∀(l:List (Nat×Nat)) (dn:Nat) (efs:List Nat) (em:List (Nat×Nat×Nat)) (pre:List (Nat×cR)),
  (∀j,dn.testBit j=true↔j∈pre.map (·.1))→efs=xN pre→em=pre.map (fun p=>(p.1,dstM p.2,mskM p.2))→mS n anc az l dn efs em=true →
  vR n anc az (eG l (l.filterMap fun p=>az[p.1]?)) pre∧(l.filterMap fun p=>az[p.1]?).length=l.length
 | [],dn,efs,em,pre,h1,_,_,h=>by
  simp only[mS]at h;have hd:=aR h;refine⟨fun j hj=>(h1 j).1 ?_,rfl⟩
  rw[hd,Nat.testBit_two_pow_sub_one];simpa using hj
 | (i,k)::r,dn,efs,em,pre,h1,h2,h3,h=>by
  simp only[mS]at h;cases ho:az[i]? with
  | none=>rw[ho]at h;cases h
  | some o=>
   rw[ho]at h;simp only[bE,Bool.not_eq_true']at h;obtain⟨g1,g2,g3,g4,g5,g6,g7⟩:=h;rw[Nat.blt_eq]at g1;have hdn:i∉pre.map (·.1):=fun hm=>by rw[(h1 i).2 hm]at g2;cases g2
   have hanc:∀j,(anc.getD i 0).testBit j=true→j∈pre.map (·.1):=fun j hj=>by
    have e:=aR g3;have:=congrArg (fun m=>m.testBit j) e
    simp only[Nat.testBit_and,hj,Bool.true_and]at this;exact(h1 j).1 this
   have hrec:=xA n anc az r (dn ||| 2 ^ i) _ _ ((i,o)::pre) (fun j=>by
     simp only[Nat.testBit_or,Nat.testBit_two_pow,Bool.or_eq_true,cI,bW,bL,h1 j];constructor
     ·rintro(e|e)
      ·exact .inr e
      ·exact .inl e.symm
     ·rintro(e|e)
      ·exact .inr e.symm
      ·exact .inl e) (by
     simp only[xN,List.filter_cons];cases hk:Nat.beq o.op.kd 2
     ·simp only[cF,cN,eV];exact h2
     ·simp only[aS,if_true,bW,h2];rfl) (by simp[h3]) g7
   simp only[List.filterMap_cons,ho,eG,aU];refine⟨⟨ho,g1,hdn,hanc,fun hk j hj=>?_,fun hk e he=>?_,fun d hd hm=>xX g5 (tJ hd) (mskM_bit hm),fun p hp=>?_,hrec.1⟩,by rw[hrec.2]⟩
   ·rw[hk]at g4;have e:=aR (show Nat.beq (anc.getD i 0) dn=true from g4)
    rw[e];exact(h1 j).2 hj
   ·have hb:Nat.beq o.op.kd 2=false:=by
     cases hh:Nat.beq o.op.kd 2 with
     | false=>rfl
     | true=>exact absurd (aR hh) hk
    rw[hb,h2]at g4;exact(cE.1 g4) e he
   ·have hq:=(cE.1 g6) (p.1,dstM p.2,mskM p.2) (by rw[h3];exact cQ.2 ⟨p,hp,rfl⟩)
    simp only[bE,Bool.or_eq_true]at hq;refine⟨fun d hd he=>xX hq.1 (tJ hd) (tJ he),?_⟩
    rcases hq.2 with e|⟨e1,e2⟩
    ·exact .inl e
    ·exact .inr ⟨fun d hd hm=>xX e1 (tJ hd) (mskM_bit hm),fun d hd hm=>xX e2 (tJ hd) (mskM_bit hm)⟩
def mH(l:List Ent):List (Nat×cR):=(l.map fun e=>(e.1,e.2.2)).reverse
theorem vR.drop{n:Nat}{anc:List Nat}{az:List cR}:∀{l1 l2:List Ent} {pre:List (Nat×cR)},vR n anc az (l1++l2) pre→vR n anc az l2 (mH l1++pre)
 | [],_,_,h=>h
 | (i,k,o)::l1,l2,pre,h=>by
  obtain⟨_,_,_,_,_,_,_,_,h9⟩:=h;have:=vR.drop (l1:=l1) (l2:=l2) h9;simpa[mH,List.reverse_cons,List.append_assoc]using this
structure Ev where
 i:Nat
 k:Nat
 o:cR
 hist:List St
 x:AS
 d:D
 nb:Option Blk
def Ev.ent(e:Ev):Ent:=(e.i,e.k,e.o)
inductive lT (cx:Cx) (cl:CL) (c0:Nat):List Ent→List St→AS→List Ev→Out→AS→Prop
 | nil {hist:List St} {x:AS}:lT cx cl c0 [] hist x [] .normal x
 | look {i k:Nat} {o:cR} {r:List Ent} {hist:List St} {x:AS} {d:D} {tr:List Ev} {out:Out} {y:AS}:o.op.kd≠2 →
   ((wanted o x=some false∧d = .tup [])∨(wanted o x=some true∧o.op.kd=0∧step cx.G o.op x=some (d,x)∧∀s∈hist.take k,step cx.G o.op ⟨x.t,s,x.c,x.d,x.r⟩=some (d,⟨x.t,s,x.c,x.d,x.r⟩))) →
   lT cx cl c0 r hist ⟨iI o.dst x.t d,x.s,x.c,x.d,x.r⟩ tr out y→lT cx cl c0 ((i,k,o)::r) hist x (⟨i,k,o,hist,x,d,none⟩::tr) out y
 | alloc {i k:Nat} {o:cR} {r:List Ent} {hist:List St} {x:AS} {v:Nat→D} {b:Blk} {d:D} {tr:List Ev} {out:Out} {y:AS}:o.op.kd=1→wanted o x=some true →
   cT cx.G o.op x.t=some (v,b)→(∀s∈x.s::hist.take k,sget s (c0+i)=none)→d=v (c0+i) →
   lT cx cl c0 r hist ⟨iI o.dst x.t d,sadd x.s (c0+i) b,x.c,x.d,x.r⟩ tr out y→lT cx cl c0 ((i,k,o)::r) hist x (⟨i,k,o,hist,x,d,some b⟩::tr) out y
 | act {i k:Nat} {o:cR} {r:List Ent} {hist:List St} {x z:AS} {d:D} {tr:List Ev} {out:Out} {y:AS}:o.op.kd=2 →
   ((wanted o x=some false∧d = .tup []∧z=⟨iI o.dst x.t d,x.s,x.c,x.d,x.r⟩)∨(wanted o x=some true∧zOp cx cl o x = .ok .normal z∧z.t=iI o.dst x.t d∧z.d=x.d∧z.r=x.r)) →
   lT cx cl c0 r (x.s::hist) z tr out y→lT cx cl c0 ((i,k,o)::r) hist x (⟨i,k,o,hist,x,d,none⟩::tr) out y
 | pan {i k:Nat} {o:cR} {r:List Ent} {hist:List St} {x z:AS} {ch:Ch}:o.op.kd=2→wanted o x=some true→zOp cx cl o x = .ok (.pan ch) z→(∀f∈r,f.2.1=0) →
   lT cx cl c0 ((i,k,o)::r) hist x [⟨i,k,o,hist,x,.un,none⟩] (.pan ch) z
theorem sameD_eq:∀(n:Nat),(∀a b,sameD n a b=true→a=b)∧(∀a b,nD n a b=true→a=b):=by
 intro n
 induction n with
 | zero=>
  refine⟨fun a b h=>by simp[sameD]at h,fun a b h=>?_⟩
  cases a<;>cases b<;>simp[nD]at h ⊢
 | succ n ih=>
  obtain⟨ih1,ih2⟩:=ih;refine⟨fun a b h=>?_,fun a b h=>?_⟩
  ·unfold sameD at h;split at h<;>(try simp only[bE,Nat.beq_eq,cI,beq_iff_eq,cN]at h)
   all_goals first
    | contradiction
    | rfl
    | (obtain⟨⟨⟨⟨h1,h2⟩,h3⟩,h4⟩,h5⟩:=h;subst h1 h2 h3 h4 h5;rfl)
    | (obtain⟨⟨⟨h1,h2⟩,h3⟩,h4⟩:=h;subst h1 h2 h3 h4;rfl)
    | (obtain⟨⟨h1,h2⟩,h3⟩:=h;subst h1 h2;rw[ih2 _ _ h3])
    | (obtain⟨⟨h1,h2⟩,h3⟩:=h;subst h1;rw[ih2 _ _ h2,ih2 _ _ h3])
    | (obtain⟨h1,h2⟩:=h;subst h1 h2;rfl)
    | (obtain⟨h1,h2⟩:=h;subst h1;rw[ih1 _ _ h2])
    | (obtain⟨h1,h2⟩:=h;subst h1;rw[ih2 _ _ h2])
    | (subst h;rfl)
    | (rw[ih2 _ _ h])
  ·cases a<;>cases b<;>simp only[nD,bE,cN]at h ⊢
   rw[ih1 _ _ h.1,ih2 _ _ h.2]
theorem zOp_act{cx:Cx}{cl:CL}{o:cR}{x y:AS}{out:Out}(hk:o.op.kd=2)(h:zOp cx cl o x = .ok out y):
  y.d=x.d∧y.r=x.r∧(out = .normal→∃d,y.t=iI o.dst x.t d)∧(out = .normal∨∃ch,out = .pan ch):=by
 have hback:∀r,back o.dst x r = .ok out y→y.d=x.d∧y.r=x.r∧(out = .normal→∃d,y.t=iI o.dst x.t d)∧(out = .normal∨∃ch,out = .pan ch):=fun r hr=>by
  obtain⟨fo,s,c,_,hy⟩:=back_inv hr;rcases hy with⟨d,_,rfl,rfl⟩|⟨ch,_,rfl,rfl⟩
  ·exact⟨rfl,rfl,fun _=>⟨d,rfl⟩,.inl rfl⟩
  ·exact⟨rfl,rfl,nofun,.inr ⟨ch,rfl⟩⟩
 obtain⟨dst,op,g⟩:=o;cases op
 case call f l=>exact hback _ h
 case callv c l=>
  rw[show zOp cx cl ⟨dst,.callv c l,g⟩ x=kN cx cl dst x (c.ev cx.G x.t) (evs l cx.G x.t) from rfl,vN]at h
  exact hback _ h
 case inv m c l=>
  have h':zo_inv m c l cx cl dst x = .ok out y:=h;unfold zo_inv at h';split at h'
  ·unfold callM at h';revert h';cases cx.M _ m with
   | none=>intro h';cases h'
   | some f=>intro h';exact hback _ h'
  ·cases h'
 case pan=>simp[AOp.kd]at hk
 case dfr=>simp[AOp.kd]at hk
 case rcv=>simp[AOp.kd]at hk
 all_goals
  rw[zOp_data (by trivial)]at h
  obtain⟨d,x',hs,rfl,rfl⟩:=zval_inv h;obtain⟨h1,h2⟩:=step_r hs;have ht:=step_tm hs;refine⟨by revert h2;cases dst<;>exact id,by revert h1;cases dst<;>exact id,fun _=>⟨d,?_⟩,.inl rfl⟩
  simp only;rw[←ht];cases dst<;>rfl
theorem mI{cx:Cx}{cl:CL}{c0:Nat}:∀{l:List Ent} {hist:List St} {x:AS} {out:Out} {y:AS},sA cx cl c0 l hist x = .ok out y→∃tr,lT cx cl c0 l hist x tr out y
 | [],hist,x,out,y,h=>by
  have h':R.ok .normal x = .ok out y:=h;cases h';exact⟨[],.nil⟩
 | (i,k,o)::r,hist,x,out,y,h=>by
  have h':lH cx cl c0 (i,k,o) r (sA cx cl c0 r) hist x = .ok out y:=h;unfold lH at h';cases hw:wanted o x with
  | none=>simp only[hw]at h';cases h'
  | some c=>
   simp only[hw]at h';cases c with
   | false=>
    simp only at h';by_cases hk:o.op.kd=2
    ·rw[hk]at h';obtain⟨tr,ht⟩:=mI (hist:=x.s::hist) h';exact⟨_,.act hk (.inl ⟨hw,rfl,rfl⟩) ht⟩
    ·have hb:Nat.beq o.op.kd 2=false:=by
      cases hh:Nat.beq o.op.kd 2 with
      | false=>rfl
      | true=>exact absurd (aR hh) hk
     rw[hb]at h';obtain⟨tr,ht⟩:=mI (hist:=hist) h';exact⟨_,.look hk (.inl ⟨hw,rfl⟩) ht⟩
   | true=>
    simp only at h';split at h'
    ·rename_i hk;cases hs:step cx.G o.op x with
     | none=>simp only[hs]at h';cases h'
     | some p=>
      obtain⟨d,x'⟩:=p;have hx:=step_quiet hk hs;subst hx;simp only[hs]at h';cases hc:(hist.take k).all (cC cx.G o.op x' d)<;>rw[hc]at h'
      ·cases h'
      ·obtain⟨tr,ht⟩:=mI (hist:=hist) h';refine⟨_,.look (by rw[hk];decide) (.inr ⟨hw,hk,hs,fun s hs'=>?_⟩) ht⟩
       have:=(cE.1 hc) s hs';unfold cC at this;split at this
       ·rename_i p hp;obtain⟨d',x2⟩:=p;have e:d=d':=by
         rcases Bool.or_eq_true_iff.1 this with e|e
         ·exact(sameD_eq 1000).1 _ _ e
         ·exact @of_decide_eq_true _ (Classical.propDecidable _) e
        have e2:=step_quiet hk hp;subst e e2;exact hp
       ·cases this
    ·rename_i hk;cases hs:cT cx.G o.op x.t with
     | none=>simp only[hs]at h';cases h'
     | some p=>
      obtain⟨v,b⟩:=p;simp only[hs]at h';cases hc:(x.s::hist.take k).all (fun s=>(sget s (c0+i)).isNone)<;>rw[hc]at h'
      ·cases h'
      ·obtain⟨tr,ht⟩:=mI (hist:=hist) h';exact⟨_,.alloc hk hw hs (fun s hs'=>by simpa using(cE.1 hc) s hs') rfl ht⟩
    ·rename_i hk;cases hz:zOp cx cl o x with
     | no=>simp only[hz]at h';cases h'
     | ok o' z=>
      simp only[hz]at h';obtain⟨h1,h2,h3,h4⟩:=zOp_act hk hz;rcases h4 with rfl|⟨ch,rfl⟩
      ·simp only at h';obtain⟨d,hd⟩:=h3 rfl;obtain⟨tr,ht⟩:=mI (hist:=x.s::hist) h';exact⟨_,.act hk (.inr ⟨hw,hz,hd,h1,h2⟩) ht⟩
      ·simp only at h';cases hc:r.all (fun f=>Nat.beq f.2.1 0)<;>rw[hc]at h'
       ·cases h'
       ·simp only[aS]at h';cases h';exact⟨_,.pan hk hw hz fun f hf=>by simpa using(cE.1 hc) f hf⟩
    ·cases h'
theorem jP(dst:Option Nat)(t:Tm)(d:D)(n:Nat):tget (iI dst t d) n=if dst=some n then d else tget t n:=by
 cases dst with
 | none=>simp[iI]
 | some k=>
  show tget (tput t k d) n=_;rw[kI];by_cases h:n=k
  ·simp[h]
  ·rw[aD h,aD (fun e=>h (by cases e;rfl))]
def tI(e:Ev):Option St:=bif Nat.beq e.o.op.kd 2 then some e.x.s else none
theorem xO{e:Ev}(h:e.o.op.kd=2):tI e=some e.x.s:=by simp[tI,h]
theorem effS_no{e:Ev}(h:e.o.op.kd≠2):tI e=none:=by
 have:Nat.beq e.o.op.kd 2=false:=by
  cases hh:Nat.beq e.o.op.kd 2 with
  | false=>rfl
  | true=>exact absurd (aR hh) h
 simp[tI,this]
section
variable {cx:Cx} {cl:CL} {c0:Nat}
def jO(c0:Nat)(pre:List Ev)(z z':AS):Prop:=
 (∀n,(∃e∈pre,e.o.dst=some n∧tget z'.t n=e.d)∨((∀e∈pre,e.o.dst≠some n)∧tget z'.t n=tget z.t n))∧z'.d=z.d∧z'.r=z.r ∧
 ((∀e∈pre,e.o.op.kd≠2)→z'.c=z.c∧(∀nm blk,sget z'.s nm=some blk→sget z.s nm=some blk∨∃e∈pre,e.nb=some blk∧nm=c0+e.i)∧∀nm,sget z.s nm≠none→sget z'.s nm≠none)
theorem jO.nil(z:AS):jO c0 [] z z:=
 ⟨fun n=>.inr ⟨fun e he=>(by cases he),rfl⟩,rfl,rfl,fun _=>⟨rfl,fun nm blk h=>.inl h,fun nm h=>h⟩⟩
theorem jO.cons{e:Ev}{pre:List Ev}{z z1 z':AS}(ht:z1.t=iI e.o.dst z.t e.d)(hd:z1.d=z.d)(hr:z1.r=z.r)
  (hs:e.o.op.kd≠2→z1.c=z.c∧(∀nm blk,sget z1.s nm=some blk→sget z.s nm=some blk∨(e.nb=some blk∧nm=c0+e.i))∧∀nm,sget z.s nm≠none→sget z1.s nm≠none)
  (h:jO c0 pre z1 z'):jO c0 (e::pre) z z':=by
 obtain⟨h1,h2,h3,h4⟩:=h;refine⟨fun n=>?_,h2.trans hd,h3.trans hr,fun hk=>?_⟩
 ·rcases h1 n with⟨f,hf,g1,g2⟩|⟨g1,g2⟩
  ·exact .inl ⟨f,bG _ hf,g1,g2⟩
  ·rw[ht,jP]at g2;by_cases hn:e.o.dst=some n
   ·rw[aH hn]at g2;exact .inl ⟨e,bH,hn,g2⟩
   ·rw[aD hn]at g2;refine .inr ⟨fun f hf=>?_,g2⟩
    rcases bL.1 hf with rfl|hf
    ·exact hn
    ·exact g1 f hf
 ·obtain⟨g1,g2,g3⟩:=hs (hk e bH);obtain⟨k1,k2,k3⟩:=h4 fun f hf=>hk f (bG _ hf)
  refine⟨k1.trans g1,fun nm blk hb=>?_,fun nm hn=>k3 nm (g3 nm hn)⟩
  rcases k2 nm blk hb with e1|⟨f,hf,e2⟩
  ·rcases g2 nm blk e1 with e3|e3
   ·exact .inl e3
   ·exact .inr ⟨e,bH,e3⟩
  ·exact .inr ⟨f,bG _ hf,e2⟩
theorem canon_pre{l:List Ent}{hist:List St}{z:AS}{tr:List Ev}{out:Out}{y:AS}(h:lT cx cl c0 l hist z tr out y):
  ∀{pre post:List Ev},tr=pre++post→(post≠[]∨out = .normal) →
   ∃l2 z',l=pre.map Ev.ent++l2∧lT cx cl c0 l2 ((pre.filterMap tI).reverse++hist) z' post out y∧jO c0 pre z z':=by
 induction h with
 | @nil hist x=>
  intro pre post he hp;have:pre=[]∧post=[]:=by simpa using he.symm
  obtain⟨rfl,rfl⟩:=this;exact⟨[],_,rfl,.nil,jO.nil _⟩
 | @look i k o r hist x d tr out y hk hw hc ih=>
  intro pre post he hp;cases pre with
  | nil=>simp only[cA]at he;subst he;exact⟨_,_,rfl,.look hk hw hc,jO.nil _⟩
  | cons e pre=>
   simp only[cD,List.cons.injEq]at he;obtain⟨rfl,he⟩:=he;obtain⟨l2,z',h1,h2,h3⟩:=ih he hp;refine⟨l2,z',by rw[h1];rfl,?_,jO.cons (z1:=⟨iI o.dst x.t d,x.s,x.c,x.d,x.r⟩) rfl rfl rfl (fun _=>⟨rfl,fun nm blk hb=>.inl hb,fun nm hn=>hn⟩) h3⟩
   rw[List.filterMap_cons,effS_no hk];exact h2
 | @alloc i k o r hist x v b d tr out y hk hw ha hs hdv hc ih=>
  intro pre post he hp;have hk2:o.op.kd≠2:=by rw[hk];decide
  cases pre with
  | nil=>simp only[cA]at he;subst he;exact⟨_,_,rfl,.alloc hk hw ha hs hdv hc,jO.nil _⟩
  | cons e pre=>
   simp only[cD,List.cons.injEq]at he;obtain⟨rfl,he⟩:=he;obtain⟨l2,z',h1,h2,h3⟩:=ih he hp;refine⟨l2,z',by rw[h1];rfl,?_,jO.cons (z1:=⟨iI o.dst x.t d,sadd x.s (c0+i) b,x.c,x.d,x.r⟩) rfl rfl rfl (fun _=>⟨rfl,fun nm blk hb=>?_,fun nm hn=>?_⟩) h3⟩
   ·rw[List.filterMap_cons,effS_no hk2];exact h2
   ·simp only[aW]at hb;by_cases e:nm=c0+i
    ·rw[aH e]at hb;cases hb;exact .inr ⟨rfl,e⟩
    ·rw[aD e]at hb;exact .inl hb
   ·simp only[aW];split
    ·simp
    ·exact hn
 | @act i k o r hist x z d tr out y hk hw hc ih=>
  intro pre post he hp;have ht:z.t=iI o.dst x.t d∧z.d=x.d∧z.r=x.r:=by
   rcases hw with⟨_,_,rfl⟩|⟨_,_,h1,h2,h3⟩
   ·exact⟨rfl,rfl,rfl⟩
   ·exact⟨h1,h2,h3⟩
  cases pre with
  | nil=>simp only[cA]at he;subst he;exact⟨_,_,rfl,.act hk hw hc,jO.nil _⟩
  | cons e pre=>
   simp only[cD,List.cons.injEq]at he;obtain⟨rfl,he⟩:=he;obtain⟨l2,z',h1,h2,h3⟩:=ih he hp;refine⟨l2,z',by rw[h1];rfl,?_,jO.cons ht.1 ht.2.1 ht.2.2 (fun hn=>absurd hk hn) h3⟩
   rw[List.filterMap_cons,xO hk];simpa using h2
 | @pan i k o r hist x z ch hk hw hz hr=>
  intro pre post he hp;cases pre with
  | nil=>simp only[cA]at he;subst he;exact⟨_,_,rfl,.pan hk hw hz hr,jO.nil _⟩
  | cons e pre=>
   simp only[cD,List.cons.injEq]at he;obtain⟨rfl,he⟩:=he;have:pre=[]∧post=[]:=by simpa using he.symm
   obtain⟨_,rfl⟩:=this;rcases hp with hp|hp
   ·exact absurd rfl hp
   ·cases hp
theorem canon_cover{l:List Ent}{hist:List St}{z:AS}{tr:List Ev}{out:Out}{y:AS}(h:lT cx cl c0 l hist z tr out y):
  ∀e∈l,(∃v∈tr,v.ent=e)∨∃l1 f l2,l=l1++f::l2∧f.2.2.op.kd=2∧e∈l2∧e.2.1=0:=by
 induction h with
 | nil=>intro e he;cases he
 | look hk hw hc ih=>
  intro e he;rcases bL.1 he with rfl|he
  ·exact .inl ⟨_,bH,rfl⟩
  ·rcases ih e he with⟨v,hv,e1⟩|⟨l1,f,l2,e1,e2⟩
   ·exact .inl ⟨v,bG _ hv,e1⟩
   ·exact .inr ⟨_::l1,f,l2,by rw[e1];rfl,e2⟩
 | alloc hk hw ha hs hdv hc ih=>
  intro e he;rcases bL.1 he with rfl|he
  ·exact .inl ⟨_,bH,rfl⟩
  ·rcases ih e he with⟨v,hv,e1⟩|⟨l1,f,l2,e1,e2⟩
   ·exact .inl ⟨v,bG _ hv,e1⟩
   ·exact .inr ⟨_::l1,f,l2,by rw[e1];rfl,e2⟩
 | act hk hw hc ih=>
  intro e he;rcases bL.1 he with rfl|he
  ·exact .inl ⟨_,bH,rfl⟩
  ·rcases ih e he with⟨v,hv,e1⟩|⟨l1,f,l2,e1,e2⟩
   ·exact .inl ⟨v,bG _ hv,e1⟩
   ·exact .inr ⟨_::l1,f,l2,by rw[e1];rfl,e2⟩
 | pan hk hw hz hr=>
  intro e he;rcases bL.1 he with rfl|he
  ·exact .inl ⟨_,bH,rfl⟩
  ·exact .inr ⟨[],_,_,rfl,hk,he,hr e he⟩
theorem iX{l:List Ent}{hist:List St}{z:AS}{tr:List Ev}{out:Out}{y:AS}(h:lT cx cl c0 l hist z tr out y):∀v∈tr,v.ent∈l:=by
 induction h with
 | nil=>intro e he;cases he
 | look hk hw hc ih=>
  intro e he;rcases bL.1 he with rfl|he
  ·exact bH
  ·exact bG _ (ih e he)
 | alloc hk hw ha hs hdv hc ih=>
  intro e he;rcases bL.1 he with rfl|he
  ·exact bH
  ·exact bG _ (ih e he)
 | act hk hw hc ih=>
  intro e he;rcases bL.1 he with rfl|he
  ·exact bH
  ·exact bG _ (ih e he)
 | pan hk hw hz hr=>
  intro e he;rcases bL.1 he with rfl|he
  ·exact bH
  ·cases he
theorem kS{l:List Ent}{hist:List St}{z:AS}{tr:List Ev}{out:Out}{y:AS}(h:lT cx cl c0 l hist z tr out y){pre:List Ev}{e:Ev}{post:List Ev}(he:tr=pre++e::post):
  e.hist=(pre.filterMap tI).reverse++hist∧jO c0 pre z e.x∧∃l2,l=pre.map Ev.ent++(e.ent::l2)∧lT cx cl c0 (e.ent::l2) e.hist e.x (e::post) out y:=by
 obtain⟨l2,z',h1,h2,h3⟩:=canon_pre h he (.inl (by simp))
 have hc:=h2;cases h2<;>exact⟨rfl,h3,_,h1,hc⟩
theorem canon_alloc{l:List Ent}{hist:List St}{z:AS}{e:Ev}{post:List Ev}{out:Out}{y:AS}(h:lT cx cl c0 l hist z (e::post) out y){b:Blk}(hb:e.nb=some b):
  (∀s∈e.x.s::e.hist.take e.k,sget s (c0+e.i)=none)∧e.o.op.kd=1:=by
 cases h with
 | look=>cases hb
 | alloc hk hw ha hs hdv hc=>exact⟨hs,hk⟩
 | act=>cases hb
 | pan=>cases hb
theorem first_act:∀(pre:List Ev),(∀e∈pre,e.o.op.kd≠2)∨∃p1 e p2,pre=p1++e::p2∧(∀f∈p1,f.o.op.kd≠2)∧e.o.op.kd=2
 | []=>.inl fun e he=>by cases he
 | e::r=>by
  by_cases hk:e.o.op.kd=2
  ·exact .inr ⟨[],e,r,rfl,fun f hf=>(by cases hf),hk⟩
  ·rcases first_act r with h|⟨p1,f,p2,h1,h2,h3⟩
   ·exact .inl fun f hf=>by
     rcases bL.1 hf with rfl|hf
     ·exact hk
     ·exact h f hf
   ·refine .inr ⟨e::p1,f,p2,by rw[h1];rfl,fun g hg=>?_,h3⟩
    rcases bL.1 hg with rfl|hg
    ·exact hk
    ·exact h2 g hg
theorem filterMap_none{p1:List Ev}(h:∀f∈p1,f.o.op.kd≠2):p1.filterMap tI=[]:=by
 induction p1 with
 | nil=>rfl
 | cons e r ih=>
  rw[List.filterMap_cons,effS_no (h e bH)];exact ih fun f hf=>h f (bG _ hf)
theorem phase{l:List Ent}{hist:List St}{z:AS}{tr:List Ev}{out:Out}{y:AS}(h:lT cx cl c0 l hist z tr out y){pre:List Ev}{e:Ev}{post:List Ev}(he:tr=pre++e::post)
  (hk:(pre.filterMap tI).length≤e.k):∃s1,s1∈e.x.s::e.hist.take e.k ∧
   (∀nm blk,sget s1 nm=some blk→sget z.s nm=some blk∨∃f∈tr,f.nb=some blk∧nm=c0+f.i)∧(∀nm,sget z.s nm≠none→sget s1 nm≠none) ∧
   ∀p1 f p2,pre=p1++f::p2→(∀g∈p1,g.o.op.kd≠2)→f.o.op.kd=2→s1=f.x.s:=by
 obtain⟨h1,h2,l2,h3,h4⟩:=kS h he;rcases first_act pre with hn|⟨p1,f,p2,hp,hp1,hf⟩
 ·obtain⟨g1,g2,g3⟩:=h2.2.2.2 hn;refine⟨e.x.s,bH,fun nm blk hb=>?_,g3,fun p1 f p2 hp _ hf=>absurd hf (hn f (by rw[hp];simp))⟩
  rcases g2 nm blk hb with e1|⟨f,hf,e1⟩
  ·exact .inl e1
  ·exact .inr ⟨f,by rw[he];exact fY _ hf,e1⟩
 ·have hpre:pre.filterMap tI=f.x.s::p2.filterMap tI:=by
   rw[hp,List.filterMap_append,filterMap_none hp1,cA,List.filterMap_cons,xO hf]
  have hmem:f.x.s∈e.hist.take e.k:=by
   rw[h1,hpre,List.reverse_cons,List.append_assoc];rw[hpre,aU]at hk;rw[List.mem_take_iff_getElem];refine⟨(p2.filterMap tI).length,by simp;omega,?_⟩
   rw[List.getElem_append_right (by simp)]
   simp
  have he2:tr=p1++f::(p2++e::post):=by rw[he,hp];simp
  obtain⟨k1,k2,l3,k3,k4⟩:=kS h he2;obtain⟨g1,g2,g3⟩:=k2.2.2.2 hp1;refine⟨f.x.s,bG _ hmem,fun nm blk hb=>?_,g3,fun q1 f' q2 hq hq1 hf'=>?_⟩
  ·rcases g2 nm blk hb with e1|⟨f,hf,e1⟩
   ·exact .inl e1
   ·exact .inr ⟨f,by rw[he2];exact fY _ hf,e1⟩
  · -- the first one is one
   have key:∀(a1 a2 b1 b2:List Ev) (f f':Ev),a1++f::a2=b1++f'::b2→(∀g∈a1,g.o.op.kd≠2)→(∀g∈b1,g.o.op.kd≠2)→f.o.op.kd=2→f'.o.op.kd=2→f=f':=by
    intro a1
    induction a1 with
    | nil=>
     intro a2 b1 b2 f f' e ha hb hf hf';cases b1 with
     | nil=>simp only[cA,List.cons.injEq]at e;exact e.1
     | cons g b1=>simp only[cA,cD,List.cons.injEq]at e;exact absurd (e.1▸hf) (hb g bH)
    | cons g a1 ih=>
     intro a2 b1 b2 f f' e ha hb hf hf';cases b1 with
     | nil=>simp only[cA,cD,List.cons.injEq]at e;exact absurd (e.1▸hf') (ha g bH)
     | cons g' b1=>
      simp only[cD,List.cons.injEq]at e;exact ih a2 b1 b2 f f' e.2 (fun x hx=>ha x (bG _ hx)) (fun x hx=>hb x (bG _ hx)) hf hf'
   rw[key p1 p2 q1 q2 f f' (by rw[←hp,hq]) hp1 hq1 hf hf']
end
section
variable {n:Nat} {anc:List Nat} {az:List cR}
theorem vR.total:∀{l:List Ent} {pre:List (Nat×cR)},vR n anc az l pre→∀j,j<n→j∈pre.map (·.1)∨∃e∈l,e.1=j
 | [],pre,h,j,hj=>.inl (h j hj)
 | (i,k,o)::r,pre,h,j,hj=>by
  obtain⟨_,_,_,_,_,_,_,_,h9⟩:=h;rcases vR.total h9 j hj with e|⟨e,he,e1⟩
  ·rw[bW,bL]at e;rcases e with e|e
   ·exact .inr ⟨_,bH,e.symm⟩
   ·exact .inl e
  ·exact .inr ⟨e,bG _ he,e1⟩
theorem vR.mem{l:List Ent}{pre:List (Nat×cR)}(h:vR n anc az l pre){e:Ent}(he:e∈l){p:Nat×cR}(hp:p∈pre):
  e.1≠p.1∧(∀d,e.2.2.dst=some d→p.2.dst≠some d)∧((anc.getD e.1 0).testBit p.1=true∨((∀d,e.2.2.dst=some d→d∉p.2.tmps)∧∀d,p.2.dst=some d→d∉e.2.2.tmps)):=by
 obtain⟨l1,l2,rfl⟩:=List.append_of_mem he;obtain⟨i,k,o⟩:=e;obtain⟨_,_,h3,_,_,_,_,h8,_⟩:=h.drop;have hp':p∈mH l1++pre:=List.mem_append_right _ hp;exact⟨fun hh=>h3 (cQ.2 ⟨p,hp',hh.symm⟩),h8 p hp'⟩
theorem efs_split(pre:List Ev)(done:List (Nat×cR)):xN (mH (pre.map Ev.ent)++done)=((pre.filter fun e=>Nat.beq e.o.op.kd 2).map (·.i)).reverse++xN done:=by
 induction pre generalizing done with
 | nil=>simp[xN,mH]
 | cons e r ih=>
  have h1:mH ((e::r).map Ev.ent)++done=mH (r.map Ev.ent)++((e.i,e.o)::done):=by simp[mH,Ev.ent]
  rw[h1,ih,List.filter_cons];cases hk:Nat.beq e.o.op.kd 2<;>simp[xN,hk]
theorem effS_len(pre:List Ev):(pre.filterMap tI).length=(pre.filter fun e=>Nat.beq e.o.op.kd 2).length:=by
 induction pre with
 | nil=>rfl
 | cons e r ih=>
  rw[List.filterMap_cons,List.filter_cons];cases hk:Nat.beq e.o.op.kd 2<;>simp[tI,hk,ih]
theorem open_le{listed:Array Bool}{pre:List Ev}{done:List (Nat×cR)}{k:Nat}(hun:∀f∈pre,f.o.op.kd=2→listed.getD f.i false=false)
  (h6:∀q∈(xN (mH (pre.map Ev.ent)++done)).drop k,listed.getD q false=true):(pre.filterMap tI).length≤k:=by
 rcases Nat.lt_or_ge k (pre.filterMap tI).length with hlt|hge
 ·exfalso;rw[efs_split]at h6;rw[effS_len]at hlt
  let A:=((pre.filter fun e=>Nat.beq e.o.op.kd 2).map (·.i)).reverse
  have hA:k<A.length:=by simpa[A]using hlt
  have hm:A[k]∈(A++xN done).drop k:=by
   rw[List.drop_append_of_le_length (by omega)]
   refine fY _ ?_;rw[List.drop_eq_getElem_cons hA];exact bH
  have h1:=h6 _ hm;have hmem:A[k]∈A:=cB hA;simp only[A,List.mem_reverse,cQ,List.mem_filter]at hmem;obtain⟨f,⟨hf,hk⟩,he⟩:=hmem;have h2:=hun f hf (aR hk);rw[he]at h2;have:A[k]=((pre.filter fun e=>Nat.beq e.o.op.kd 2).map (·.i)).reverse[k]:=rfl
  rw[←this,h1]at h2;cases h2
 ·exact hge
end
structure Inv (E:Env) (cx:Cx) (cl:CL) (M0:Nat→Prop) (w0:World) (N:Nat) (n:Nat) (anc:List Nat) (az:List cR) (x0:AS) (μ0:Mu) (wS:World) (out:Out) (y:AS)
  (listed:Array Bool) (a:Act) (w:World) (done:List (Nat×cR)) (l:List Ent) (hist:List St) (z:AS) (tr:List Ev) (μ:Mu) (xh:AS):Prop where
 ord:vR n anc az l done
 can:lT cx cl x0.c l hist z tr out y
 dn:∀p∈done,listed.getD p.1 false=true
 ne:∀e∈l,e.2.2.op.kd=2→listed.getD e.1 false=false
 rel:Rel E M0 w0 N μ a w xh
 c:xh.c=z.c
 d:xh.d=z.d
 r:xh.r=z.r
 r0:z.r=x0.r
 ge:x0.c+n≤z.c
 tmp1:∀e∈tr,listed.getD e.i false=true→∀m,e.o.dst=some m→tget xh.t m=e.d
 tmp2:∀m,(∀e∈tr,listed.getD e.i false=true→e.o.dst≠some m)→tget xh.t m=tget z.t m
 kil:∀e∈l,e.2.1≠0→∀m,e.2.2.dst=some m→tget z.t m = .un
 st1:∀nm blk,sget z.s nm=some blk→μ nm≠none→sget xh.s nm=some blk
 st2:∀e∈tr,listed.getD e.i false=true→∀blk,e.nb=some blk→sget xh.s (x0.c+e.i)=some blk∧μ (x0.c+e.i)≠none
 unm:∀e∈l,listed.getD e.1 false=false→μ (x0.c+e.1)=none
 fr:Fr x0.c x0.s μ0 wS z.c xh.s μ w
theorem tC(l:Array Bool)(i j:Nat)(hi:i<l.size):(l.setIfInBounds i true).getD j false=if j=i then true else l.getD j false:=by
 simp only[eJ];by_cases h:j=i
 ·subst h;simp[hi]
 ·rw[dA (fun e=>h e.symm),aD h]
theorem Fr.weaken{c c1 c2:Nat}{s s':St}{μ μ':Mu}{w w':World}(h:Fr c1 s μ w c2 s' μ' w')(hc:c≤c1):Fr c s μ w c2 s' μ' w':=
 ⟨h.size,h.same,h.live,h.mu,fW hc h.cle,fun nm hn e=>h.kept nm (bY hn hc) e,h.new⟩
theorem Fr.trans'{c c1 c2:Nat}{s s1 s2:St}{μ μ1 μ2:Mu}{w w1 w2:World}(h:Fr c s μ w c1 s1 μ1 w1)(h':Fr c s1 μ1 w1 c2 s2 μ2 w2):Fr c s μ w c2 s2 μ2 w2:=
 ⟨fW h.size h'.size,fun b hb hl=>by
  rw[h'.same b (bY hb h.size) (fun e=>hl (h.live b hb e)),h.same b hb hl],
  fun b hb e=>h.live b hb (h'.live b (bY hb h.size) e),fun n l e=>h'.mu n l (h.mu n l e),h'.cle,fun nm hn e=>h'.kept nm hn (h.kept nm hn e),fun b hb hn=>h.new b hb (h'.new b (bY hb h.size) hn)⟩
theorem wanted_congr{o:cR}{x x':AS}(h:∀n∈o.tmps,tget x'.t n=tget x.t n):wanted o x'=wanted o x:=by
 unfold wanted;cases hg:o.guard with
 | none=>rfl
 | some p=>
  obtain⟨g,wt⟩:=p;simp only;rw[h g (by simp[cR.tmps,hg])]
section
variable {E:Env} {cx:Cx} {cl:CL} {M0:Nat→Prop} {w0:World} {N:Nat} {M:Nat→Prop} {n:Nat} {anc:List Nat} {az:List cR} {x0:AS} {μ0:Mu} {wS:World} {out:Out} {y:AS}
 {listed:Array Bool} {a:Act} {w:World} {done:List (Nat×cR)} {l:List Ent} {hist:List St} {z:AS} {tr:List Ev} {μ:Mu} {xh:AS}
theorem Inv.find(h:Inv E cx cl M0 w0 N n anc az x0 μ0 wS out y listed a w done l hist z tr μ xh){i:Nat}(hin:i<n)(hi0:listed.getD i false=false)
  (hanc:∀q,(anc.getD i 0).testBit q=true→listed.getD q false=true):∃pre e post,tr=pre++e::post∧e.i=i:=by
 rcases h.ord.total i hin with hd|⟨e,he,rfl⟩
 ·exfalso;obtain⟨p,hp,rfl⟩:=cQ.1 hd;rw[h.dn p hp]at hi0;cases hi0
 ·rcases canon_cover h.can e he with⟨v,hv,rfl⟩|⟨l1,f,l2,hl,hf,hel,hk⟩
  ·obtain⟨pre,post,rfl⟩:=List.append_of_mem hv;exact⟨pre,v,post,rfl,rfl⟩
  ·exfalso;have hfl:f∈l:=by rw[hl];simp
   have hun:=h.ne f hfl hf;obtain⟨m1,m2,rfl⟩:=List.append_of_mem hel;have hl':l=(l1++f::m1)++e::m2:=by rw[hl];simp
   have ho:=h.ord;rw[hl']at ho;obtain⟨i,k,o⟩:=e;obtain⟨_,_,_,_,h5,h6,_,_,_⟩:=ho.drop;simp only at hk;have hfp:(f.1,f.2.2)∈mH (l1++f::m1)++done:=by simp[mH]
   have hb:(anc.getD i 0).testBit f.1=true:=by
    by_cases h2:o.op.kd=2
    ·exact h5 h2 _ (cQ.2 ⟨_,hfp,rfl⟩)
    ·refine h6 h2 _ ?_;rw[hk,fU];exact cQ.2 ⟨_,List.mem_filter.2 ⟨hfp,by simp[hf]⟩,rfl⟩
   have:=hanc _ hb;rw[hun]at this;cases this
theorem Inv.sees(h:Inv E cx cl M0 w0 N n anc az x0 μ0 wS out y listed a w done l hist z tr μ xh){pre:List Ev}{e:Ev}{post:List Ev}(he:tr=pre++e::post)
  (hi0:listed.getD e.i false=false) (hanc:∀q,(anc.getD e.i 0).testBit q=true→listed.getD q false=true)
  (hdown:∀j,listed.getD j false=true→∀q,(anc.getD j 0).testBit q=true→listed.getD q false=true):∀m∈e.o.tmps,tget xh.t m=tget e.x.t m:=by
 intro m hm;obtain⟨h1,h2,l2,h3,h4⟩:=kS h.can he;have ho:=h.ord;rw[h3]at ho;have ho':=ho.drop;obtain⟨g1,g2,g3,g4,g5,g6,g7,g8,g9⟩:=ho';have hpre:∀f∈pre,(f.i,f.o)∈mH (pre.map Ev.ent)++done:=fun f hf=>by
  refine fY _ ?_;simp only[mH,List.mem_reverse,List.map_map,cQ];exact⟨f,hf,rfl⟩
 rcases h2.1 m with⟨f,hf,e1,e2⟩|⟨e1,e2⟩
 · -- written by a step before it
  have hb:(anc.getD e.i 0).testBit f.i=true:=by
   rcases(g8 _ (hpre f hf)).2 with hb|⟨_,hb⟩
   ·exact hb
   ·exact absurd hm (hb m e1)
  rw[h.tmp1 f (by rw[he];exact fY _ hf) (hanc _ hb) m e1,e2]
 ·rw[e2];refine h.tmp2 m fun f hf hl hd=>?_
  rw[he]at hf;rcases List.mem_append.1 hf with hf|hf
  ·exact e1 f hf hd
  ·rcases bL.1 hf with rfl|hf
   ·rw[hi0]at hl;cases hl
   ·have hfl:f.ent∈l2:=by
     have:=iX h4;have h5:=this f (bG _ hf);rcases bL.1 h5 with h6|h6
     ·exfalso;have:f.i=e.i:=congrArg (·.1) h6;rw[this,hi0]at hl;cases hl
     ·exact h6
    obtain⟨k1,k2,k3⟩:=g9.mem hfl (p:=(e.i,e.o)) bH;rcases k3 with hb|⟨hb,_⟩
    ·have:=hdown _ hl _ hb;rw[hi0]at this;cases this
    ·exact hb m hd hm
theorem Inv.small(h:Inv E cx cl M0 w0 N n anc az x0 μ0 wS out y listed a w done l hist z tr μ xh){s1:St}
  (h1:∀nm blk,sget s1 nm=some blk→sget z.s nm=some blk∨∃f∈tr,f.nb=some blk∧nm=x0.c+f.i):∀nm blk,sget s1 nm=some blk→μ nm≠none→sget xh.s nm=some blk:=by
 intro nm blk hb hn;rcases h1 nm blk hb with e|⟨f,hf,e1,rfl⟩
 ·exact h.st1 nm blk e hn
 ·cases hl:listed.getD f.i false with
  | true=>exact(h.st2 f hf hl blk e1).1
  | false=>exact absurd (h.unm f.ent (iX h.can f hf) hl) hn
end
theorem store_over(s:St):∀(L:List (Nat×Blk)),∃s',∀nm,(nm∈L.map (·.1)→∃blk,(nm,blk)∈L∧sget s' nm=some blk)∧(nm∉L.map (·.1)→sget s' nm=sget s nm)
 | []=>⟨s,fun nm=>⟨fun h=>(by simp at h),fun _=>rfl⟩⟩
 | (m,b)::L=>by
  obtain⟨s',h⟩:=store_over s L;refine⟨sadd s' m b,fun nm=>⟨fun hm=>?_,fun hm=>?_⟩⟩
  ·by_cases e:nm=m
   ·subst e;exact⟨b,bH,by rw[aW,aH rfl]⟩
   ·rw[bW,bL]at hm;rcases hm with hm|hm
    ·exact absurd hm e
    ·obtain⟨blk,h1,h2⟩:=(h nm).1 hm;exact⟨blk,bG _ h1,by rw[aW,aD e];exact h2⟩
  ·rw[bW,bL,not_or]at hm;rw[aW,aD hm.1];exact(h nm).2 hm.2
section
variable {n:Nat} {anc:List Nat} {az:List cR}
theorem vR.get:∀{l:List Ent} {pre:List (Nat×cR)},vR n anc az l pre→∀e∈l,az[e.1]?=some e.2.2∧e.1<n
 | [],_,_,e,he=>by cases he
 | (i,k,o)::r,pre,h,e,he=>by
  obtain⟨h1,h2,_,_,_,_,_,_,h9⟩:=h;rcases bL.1 he with rfl|he
  ·exact⟨h1,h2⟩
  ·exact vR.get h9 e he
end
section
variable {E:Env} {cx:Cx} {cl:CL} {M0:Nat→Prop} {w0:World} {N:Nat} {M:Nat→Prop} {n:Nat} {anc:List Nat} {az:List cR} {x0:AS} {μ0:Mu} {wS:World} {out:Out} {y:AS}
 {listed:Array Bool} {a:Act} {w:World} {done:List (Nat×cR)} {l:List Ent} {hist:List St} {z:AS} {tr:List Ev} {μ:Mu} {xh:AS}
theorem mem_preOf{pre:List Ev}{done:List (Nat×cR)}{f:Ev}(hf:f∈pre):(f.i,f.o)∈mH (pre.map Ev.ent)++done:=by
 refine fY _ ?_;simp only[mH,List.mem_reverse,List.map_map,cQ];exact⟨f,hf,rfl⟩
theorem Inv.apart(h:Inv E cx cl M0 w0 N n anc az x0 μ0 wS out y listed a w done l hist z tr μ xh){pre:List Ev}{e:Ev}{post:List Ev}(he:tr=pre++e::post):
  (∀f∈pre,f.i≠e.i∧∀d,f.o.dst=some d→e.o.dst≠some d)∧∀f∈post,f.i≠e.i∧∀d,f.o.dst=some d→e.o.dst≠some d:=by
 obtain⟨h1,h2,l2,h3,h4⟩:=kS h.can he;have ho:=h.ord;rw[h3]at ho;have ho':=ho.drop;obtain⟨ei,ek,eo,ehist,ex,ed,enb⟩:=e;refine⟨fun f hf=>?_,fun f hf=>?_⟩
 ·obtain⟨k1,k2,_⟩:=ho'.mem (e:=(ei,ek,eo)) bH (mem_preOf hf);exact⟨fun hh=>k1 hh.symm,fun d hd he=>k2 d he hd⟩
 ·have hfl:f.ent∈l2:=by
   cases h4 with
   | look _ _ hc=>exact iX hc f hf
   | alloc _ _ _ _ _ hc=>exact iX hc f hf
   | act _ _ hc=>exact iX hc f hf
   | pan=>cases hf
  obtain⟨_,_,_,_,_,_,_,_,g9⟩:=ho';obtain⟨k1,k2,_⟩:=g9.mem hfl (p:=(ei,eo)) bH;exact⟨k1,k2⟩
theorem Inv.unique(h:Inv E cx cl M0 w0 N n anc az x0 μ0 wS out y listed a w done l hist z tr μ xh){e f:Ev}(he:e∈tr)(hf:f∈tr)(hi:f.i=e.i):f=e:=by
 obtain⟨pre,post,hp⟩:=List.append_of_mem he;obtain⟨k1,k2⟩:=h.apart hp;rw[hp]at hf;rcases List.mem_append.1 hf with hf|hf
 ·exact absurd hi (k1 f hf).1
 ·rcases bL.1 hf with rfl|hf
  ·rfl
  ·exact absurd hi (k2 f hf).1
theorem Inv.room(h:Inv E cx cl M0 w0 N n anc az x0 μ0 wS out y listed a w done l hist z tr μ xh){pre:List Ev}{e:Ev}{post:List Ev}(he:tr=pre++e::post)(hk:e.o.op.kd≠2)
  (hanc:∀q,(anc.getD e.i 0).testBit q=true→listed.getD q false=true):(pre.filterMap tI).length≤e.k:=by
 obtain⟨h1,h2,l2,h3,h4⟩:=kS h.can he;have ho:=h.ord;rw[h3]at ho;obtain⟨_,_,_,_,_,g6,_,_,_⟩:=ho.drop;refine open_le (listed:=listed) (done:=done) (fun f hf hk=>h.ne f.ent (iX h.can f (by rw[he];exact fY _ hf)) hk) fun q hq=>hanc q (g6 hk q hq)
theorem Inv.did(h:Inv E cx cl M0 w0 N n anc az x0 μ0 wS out y listed a w done l hist z tr μ xh){pre:List Ev}{e:Ev}{post:List Ev}(he:tr=pre++e::post)(hk:e.o.op.kd≠2)(hsz:e.i<listed.size)
  {a':Act} {w':World} {μ':Mu} {xh':AS} (rel:Rel E M0 w0 N μ' a' w' xh') (hc:xh'.c=xh.c) (hd:xh'.d=xh.d) (hr:xh'.r=xh.r) (ht:xh'.t=iI e.o.dst xh.t e.d)
  (hs:(e.nb=none∧μ'=μ∧xh'.s=xh.s)∨∃b,e.nb=some b∧(∀nm,nm≠x0.c+e.i→μ' nm=μ nm∧sget xh'.s nm=sget xh.s nm)∧sget xh'.s (x0.c+e.i)=some b∧μ' (x0.c+e.i)≠none∧sget z.s (x0.c+e.i)=none)
  (fr:Fr x0.c xh.s μ w z.c xh'.s μ' w'):Inv E cx cl M0 w0 N n anc az x0 μ0 wS out y (listed.setIfInBounds e.i true) a' w' done l hist z tr μ' xh':=by
 obtain⟨p1,p2⟩:=h.apart he;have hem:e∈tr:=by rw[he];simp
 have other:∀f∈tr,f.i≠e.i→∀d,f.o.dst=some d→e.o.dst≠some d:=fun f hf hn=>by
  rw[he]at hf;rcases List.mem_append.1 hf with hf|hf
  ·exact(p1 f hf).2
  ·rcases bL.1 hf with rfl|hf
   ·exact absurd rfl hn
   ·exact(p2 f hf).2
 have hL:∀j,(listed.setIfInBounds e.i true).getD j false=if j=e.i then true else listed.getD j false:=fun j=>tC _ _ _ hsz
 have old:∀nm,nm≠x0.c+e.i→μ' nm=μ nm∧sget xh'.s nm=sget xh.s nm:=fun nm hn=>by
  rcases hs with⟨_,h1,h2⟩|⟨b,_,h1,_⟩
  ·rw[h1,h2];exact⟨rfl,rfl⟩
  ·exact h1 nm hn
 exact {
  ord:=h.ord
  can:=h.can
  dn:=fun p hp=>by rw[hL];split;rfl;exact h.dn p hp
  ne:=fun f hf hk2=>by
   rw[hL,aD]
   ·exact h.ne f hf hk2
   ·intro hi;have e1:=(h.ord.get f hf).1;have e2:=(h.ord.get e.ent (iX h.can e hem)).1;rw[hi]at e1;have e3:f.2.2=e.o:=Option.some.inj (e1.symm.trans e2);rw[e3]at hk2;exact hk hk2
  rel:=rel
  c:=hc.trans h.c
  d:=hd.trans h.d
  r:=hr.trans h.r
  r0:=h.r0
  ge:=h.ge
  tmp1:=fun f hf hl m hm=>by
   rw[ht,jP];rw[hL]at hl;by_cases hi:f.i=e.i
   ·have:=h.unique hem hf hi;subst this;rw[aH hm]
   ·rw[aD hi]at hl;rw[aD (other f hf hi m hm)];exact h.tmp1 f hf hl m hm
  tmp2:=fun m hm=>by
   have h1:e.o.dst≠some m:=hm e hem (by rw[hL,aH rfl])
   rw[ht,jP,aD h1];refine h.tmp2 m fun f hf hl=>hm f hf (by rw[hL];split;rfl;exact hl)
  kil:=h.kil
  st1:=fun nm blk hb hn=>by
   by_cases e1:nm=x0.c+e.i
   ·rcases hs with⟨_,h1,h2⟩|⟨b,_,_,_,_,h1⟩
    ·rw[h2];rw[h1]at hn;exact h.st1 nm blk hb hn
    ·rw[e1,h1]at hb;cases hb
   ·rw[(old nm e1).1]at hn;rw[(old nm e1).2];exact h.st1 nm blk hb hn
  st2:=fun f hf hl blk hb=>by
   rw[hL]at hl;by_cases hi:f.i=e.i
   ·have:=h.unique hem hf hi;subst this;rcases hs with⟨h1,_⟩|⟨b,h1,_,h2,h3,_⟩
    ·rw[h1]at hb;cases hb
    ·rw[h1]at hb;cases hb;exact⟨h2,h3⟩
   ·rw[aD hi]at hl;have hne:x0.c+f.i≠x0.c+e.i:=by omega
    rw[(old _ hne).1,(old _ hne).2];exact h.st2 f hf hl blk hb
  unm:=fun f hf hl=>by
   rw[hL]at hl;by_cases hi:f.1=e.i
   ·rw[aH hi]at hl;cases hl
   ·rw[aD hi]at hl;rw[(old (x0.c+f.1) (by omega)).1]
    exact h.unm f hf hl
  fr:=h.fr.trans' fr }
variable {ops:Array Oper} {b:Frame} {k:List Item} {cs:List Frame}
theorem Inv.look(h:Inv E cx cl M0 w0 N n anc az x0 μ0 wS out y listed a w done l hist z tr μ xh)(hG:cx.G=E.G){pre:List Ev}{e:Ev}{post:List Ev}(he:tr=pre++e::post)(hk:e.o.op.kd≠2)
  (hsz:e.i<listed.size) (hi0:listed.getD e.i false=false) (hanc:∀q,(anc.getD e.i 0).testBit q=true→listed.getD q false=true)
  (hdown:∀j,listed.getD j false=true→∀q,(anc.getD j 0).testBit q=true→listed.getD q false=true)
  {o:Oper} (ho:ops[e.i]?=some o) (hco:xS E.P N ops o=some e.o) (rest:List Nat) :
  ∃a' w' μ' xh',Inv E cx cl M0 w0 N n anc az x0 μ0 wS out y (listed.setIfInBounds e.i true) a' w' done l hist z tr μ' xh' ∧
   Steps E.P (lone (fat b a (.inRegion ops (e.i::rest)::k)) cs w) (lone (fat b a' (.inRegion ops rest::k)) cs w'):=by
 obtain⟨h1,h2,l2,h3,h4⟩:=kS h.can he;have hsee:=h.sees he hi0 hanc hdown;obtain⟨hop,hdst,hgd,hd⟩:=mP hco;have hroom:=h.room he hk hanc;obtain⟨s1,hs1,hsa,hsb,_⟩:=phase h.can he hroom;have hsm:=h.small hsa;have hge:=h.ge;have hcc:=h.c;have hxc:x0.c≤z.c:=by omega
 have fr0:Fr x0.c xh.s μ w z.c xh.s μ w:=⟨aJ _,fun _ _ _=>rfl,fun _ _ h=>h,fV.refl μ,hxc,fun _ _ h=>h,nonew⟩
 have hwx:wanted e.o xh=wanted e.o e.x:=wanted_congr hsee;have hfin:∀v,(fat b a (.inRegion ops (e.i::rest)::k)).finish v=fat b (a.put o.dst v) (.inRegion ops rest::k):=fun v=>by
  rw[mN,ho];rfl
 have nodef:e.o.op.kd≠3→∀c,o.op≠.defer c:=fun h3 c hc=>by
  rcases cOp_kind hop with⟨_,hn⟩|⟨c',f,l,hoc,_⟩|⟨c',y',g,l,hoc,_⟩|⟨c',r,m,g,l,hoc,_⟩|⟨y',g,hoc,_⟩|⟨c',y',g,l,hoc,_,_,_,hao⟩|⟨c',hoc,_⟩
  ·exact hn c hc
  ·rw[hc]at hoc;cases hoc
  ·rw[hc]at hoc;cases hoc
  ·rw[hc]at hoc;cases hoc
  ·rw[hc]at hoc;cases hoc
  ·rw[hao]at h3;exact h3 rfl
  ·rw[hc]at hoc;cases hoc
 have skip:wanted e.o e.x=some false→e.d = .tup []→e.nb=none→∃a' w' μ' xh',Inv E cx cl M0 w0 N n anc az x0 μ0 wS out y (listed.setIfInBounds e.i true) a' w' done l hist z tr μ' xh' ∧
   Steps E.P (lone (fat b a (.inRegion ops (e.i::rest)::k)) cs w) (lone (fat b a' (.inRegion ops rest::k)) cs w'):=fun hw hed hnb=>by
  have hwr:=jT h.rel hgd (hwx.trans hw);have hst:=kR (P:=E.P) (b:=b) (a:=a) (k:=k) (cs:=cs) (w:=w) (ops:=ops) (i:=e.i) (rest:=rest) (by simp[ho,hwr])
  simp only[ho,aO]at hst;have hput:=h.rel.put (dst:=o.dst) (d:=.tup []) (v:=undef) hd (by simp only[aP];exact⟨#[],rfl,rfl⟩)
  have hput':Rel E M0 w0 N μ (a.put o.dst undef) w ⟨iI o.dst xh.t (.tup []),xh.s,xh.c,xh.d,xh.r⟩:=by revert hput;cases o.dst<;>exact id
  refine⟨_,_,μ,⟨iI o.dst xh.t (.tup []),xh.s,xh.c,xh.d,xh.r⟩,h.did he hk hsz hput' rfl rfl rfl (by rw[hdst,hed]) (.inl ⟨hnb,rfl,rfl⟩) fr0,.one hst⟩
 obtain⟨ei,ek,eo,ehist,ex,ed,enb⟩:=e;simp only at *;cases h4 with
 | look hk' hw hc=>
  rcases hw with⟨hw,hed⟩|⟨hw,hk0,hs,hall⟩
  ·exact skip hw hed rfl
  · -- it looks
   have hstep1:step cx.G eo.op ⟨ex.t,s1,ex.c,ex.d,ex.r⟩=some (ed,⟨ex.t,s1,ex.c,ex.d,ex.r⟩):=by
    rcases bL.1 hs1 with rfl|hm
    ·exact hs
    ·exact hall s1 hm
   have hstep:=step_t hk0 (t':=xh.t) (c':=xh.c) (dl':=xh.d) (r':=xh.r) (fun m hm=>hsee m (fY _ hm)) hstep1
   rw[hG]at hstep;have hwr:=jT h.rel hgd (hwx.trans hw);have hsmall:Rel E M0 w0 N μ a w ⟨xh.t,s1,xh.c,xh.d,xh.r⟩:=h.rel.restrict (fun _=>.inl rfl) hsm (aJ _) rfl
   obtain⟨v,w',μ',hr,hv,hR,hf⟩:=op_sound hsmall hop hstep;have hμ:μ'=μ:=by
    funext nm
    rcases Nat.lt_or_ge nm xh.c with hlt|hge
    ·cases hm:μ nm with
     | none=>exact hf.kept nm hlt hm
     | some lc=>exact hf.mu nm lc hm
    ·rw[hR.free (nm:=nm) hge,h.rel.free hge]
   subst hμ;obtain⟨hbig,hfb⟩:=h.rel.lift hsm hR hf (s2:=xh.s) (t2:=xh.t) (fun nm blk hb hn=>by
    cases hg:sget s1 nm with
    | none=>exact .inr ⟨hb,hn,rfl⟩
    | some blk'=>
     have:=hsm nm blk' hg hn;rw[hb]at this;cases this;exact .inl rfl) hR.tm
   have hput:=hbig.put (dst:=o.dst) hd hv;have hput':Rel E M0 w0 N μ' (a.put o.dst v) w' ⟨iI o.dst xh.t ed,xh.s,xh.c,xh.d,xh.r⟩:=by revert hput;cases o.dst<;>exact id
   have hg:=lM (P:=E.P) (b:=b) (k:=k) (cs:=cs) (w:=w) (rest:=rest) ho hwr (.inr (nodef (by rw[hk0];decide)))
   have hfb':Fr x0.c xh.s μ' w z.c xh.s μ' w':=by
    have:=hfb.weaken (c:=x0.c) (by omega)
    rw[←hcc];exact this
   refine⟨_,_,μ',⟨iI o.dst xh.t ed,xh.s,xh.c,xh.d,xh.r⟩,h.did he hk hsz hput' rfl rfl rfl (by rw[hdst]) (.inl ⟨rfl,rfl,rfl⟩) hfb',.one (cV ?_)⟩
   rw[hg,←hfin];rcases hr with hr|⟨hr,rfl⟩
   ·exact oR hr
   ·exact rO hr
 | @alloc _ _ _ _ _ _ v blk _ _ _ _ hk1 hw ha hss hdv hc=>
  have hdv':ed=v (x0.c+ei):=hdv;clear hdv;subst hdv';have ha':cT E.G eo.op xh.t=some (v,blk):=by
   rw[←hG,←ha];exact alloc_t fun m hm=>hsee m (fY _ hm)
  have hwr:=jT h.rel hgd (hwx.trans hw);obtain⟨u,w',obj,cap,hrun,hw',henv,hall⟩:=alloc_res h.rel hop ha';have hem:(⟨ei,ek,eo,ehist,ex,v (x0.c+ei),some blk⟩:Ev)∈tr:=by rw[he];simp
  have hel:=iX h.can _ hem;have hun:μ (x0.c+ei)=none:=h.unm _ hel hi0;have hlt:x0.c+ei<xh.c:=by
   have:ei<n:=(h.ord.get _ hel).2;omega
  obtain⟨μ',hR,hle,hx,hμn,hμo,hsz',hsame,hlive⟩:=h.rel.reserve hun hlt hw' henv (fun M' w'' μ' g1 g2 g3 g4 g5=>(hall M' w'' μ' _ g1 g2 g3).2 g4 g5)
  have hv:=(hall (Mm M0 μ') w' μ' _ hx hle hμn).1;have hput:=hR.put (dst:=o.dst) hd hv;have hput':Rel E M0 w0 N μ' (a.put o.dst u) w' ⟨iI o.dst xh.t (v (x0.c+ei)),sadd xh.s (x0.c+ei) blk,xh.c,xh.d,xh.r⟩:=by revert hput;cases o.dst<;>exact id
  have hg:=lM (P:=E.P) (b:=b) (k:=k) (cs:=cs) (w:=w) (rest:=rest) ho hwr (.inr (nodef (by rw[hk1];decide)))
  have hz:sget z.s (x0.c+ei)=none:=by
   cases hzz:sget z.s (x0.c+ei) with
   | none=>rfl
   | some q=>exact absurd (hss s1 hs1) (hsb _ (by rw[hzz];simp))
  have hfr:Fr x0.c xh.s μ w z.c (sadd xh.s (x0.c+ei) blk) μ' w':=
   ⟨hsz',fun b hb _=>hsame b hb,hlive,hle,hxc,fun nm hn e=>by rw[hμo nm (by omega)];exact e,fun b hb ⟨q,l,hl,hlb⟩=>by
    by_cases hq:q=x0.c+ei
    ·rw[hq,hμn]at hl;cases hl;cases hlb;exact absurd hb (Nat.lt_irrefl _)
    ·exact⟨q,l,by rw[←hμo q hq];exact hl,hlb⟩⟩
  refine⟨_,_,μ',⟨iI o.dst xh.t (v (x0.c+ei)),sadd xh.s (x0.c+ei) blk,xh.c,xh.d,xh.r⟩,h.did he hk hsz hput' rfl rfl rfl (by rw[hdst])
   (.inr ⟨blk,rfl,fun nm hn=>⟨hμo nm hn,by simp only;rw[aW,aD hn]⟩,by simp only;rw[aW,aH rfl],by rw[hμn];simp,hz⟩) hfr,.one (cV ?_)⟩
  rw[hg,←hfin];exact oR hrun
 | act hk'=>exact absurd hk' hk
 | pan hk'=>exact absurd hk' hk
end
end Zv
