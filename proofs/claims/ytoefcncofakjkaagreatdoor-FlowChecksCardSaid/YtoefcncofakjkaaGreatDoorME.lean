/- What functions come to: words by the program. Conditions: none. -/
import Derived.Test.YtoefcncofakjkaaGreatDoorMD
set_option linter.unusedVariables false
set_option linter.unusedSimpArgs false
set_option maxRecDepth 100000
namespace Zv
open Go
noncomputable section
def clsIs (s:List UInt8) (i:Nat) (v:Int):Prop:=decide (v=8)=(match s[i]? with|some b=>lowerB b|none=>false)∧decide (v=6)=(match s[i]? with|some b=>digitB b|none=>false)
theorem f156 (n j:Nat) {s:List UInt8} {m T:Nat} {k:D} {st:St} {c i:Nat} (hm:sget st m=some (.fix T [.str s,k])) (hi:i≤s.length) :
  ∃ v:Int,fn (n+7) (j+2) (.fn 89) [.ptr m 0,.int .i64 (i:Nat)] st c = .ok (.ret (.int .i64 v)) st c∧clsIs s i v:=by
 rw [fn_in (f:=89) (A:=A89) rfl rfl rfl rfl (n+7) (j+1) _ _ _ rfl,show A89.body=B89 from rfl]
 simp only [B89,Ab.abq]
 by_cases hlt:i<s.length
 ·have hge:decide (((s.length:Nat):Int)≤(i:Nat))=false:=dF (by omega)
  have hg:s[i]?=some s[i]:=List.getElem?_eq_getElem hlt
  obtain ⟨a,e,h1,h2,h3⟩:=cls n s[i]
  have hb:=s[i].toNat_lt
  have hw:wrapD .i64 (s[i].toNat:Int)=(s[i].toNat:Int):=wrapD_i64 (by omega) (by omega)
  simp only [z2,↓reduceIte,Nat.reduceEqDiff,Nat.reduceAdd,Nat.reduceLeDiff,reduceCtorEq,hm,hge,idxD_nat hlt,hg,hw,fn_pure (f:=165) rfl,ex_call,h1,A89]
  refine ⟨a,?_,by rw [hg]; exact h2,by rw [hg]; exact h3⟩
  rfl
 ·have hge:decide (((s.length:Nat):Int)≤(i:Nat))=true:=dT (by omega)
  have hg:s[i]?=none:=List.getElem?_eq_none (by omega)
  simp only [z2,↓reduceIte,Nat.reduceEqDiff,Nat.reduceAdd,Nat.reduceLeDiff,reduceCtorEq,hm,hge,A89]
  refine ⟨10,?_,by rw [hg]; rfl,by rw [hg]; rfl⟩
  rfl
theorem clsIs.alnum {s:List UInt8} {i:Nat} {v:Int} (h:clsIs s i v):(decide (v=8)||decide (v=6))=(match s[i]? with|some b=>alnum b|none=>false):=by
 rw [h.1,h.2]
 cases s[i]? <;> rfl
theorem f157 (n j:Nat) {s:List UInt8} {m T:Nat} {st:St} {c:Nat} (hm:sget st m=some (.fix T [.str s,.int .i64 0])) (hs:s.length<9223372036854775807) :
  ∃ (k:Nat) (st':St) (c':Nat),k≤s.length∧(k=s.length↔s.all alnum=true)∧fn (n+7) (j+3) (.fn 90) [.ptr m 0,.int .i64 8,.int .i64 6] st c = .ok (.ret (.str (s.take k))) st' c'∧c≤c'∧∀ x,x≠m→sget st' x=sget st x:=by
 rw [fn_in (f:=90) (A:=A90) rfl rfl rfl rfl (n+7) (j+2) _ _ _ rfl,show A90.body=B90 from rfl]
 simp only [B90,Ab.abq]
 obtain ⟨v0,h0,hv0⟩:=f156 n j (c:=c) (i:=0) hm (Nat.zero_le _)
 have h0':fn (n+7) (j+2) (.fn 89) [.ptr m 0,.int .i64 0] st c = .ok (.ret (.int .i64 v0)) st c:=h0
 simp only [z2,↓reduceIte,Nat.reduceEqDiff,Nat.reduceAdd,Nat.reduceLeDiff,reduceCtorEq,hm,h0']
 generalize hz:zloop KK _ _=rl
 refine zwhile rl hz s.length (KK_lt hs) (fun i z=>∃ t v st',z=⟨t,st',c,[],none⟩∧sget st' m=some (.fix T [.str s,.int .i64 (i:Nat)])∧(∀ x,x≠m→sget st' x=sget st x)∧tget t 0 = .ptr m 0∧tget t 1 = .int .i64 8∧tget t 2 = .int .i64 6∧tget t 7 = .int .i64 0∧tget t 8 = .int .i64 v∧clsIs s i v∧∀ q (h:q<s.length),q<i→alnum s[q]=true)
  ⟨_,v0,_,rfl,hm,fun _ _=>rfl,by simp [ex_val],by simp [ex_val],by simp [ex_val],by simp [ex_val],by simp [ex_val],hv0,nofun⟩ ?_
 rintro i z hi ⟨t,v,st',rfl,hm',hfr,q0,q1,q2,q7,q8,hv,hall⟩
 have hal:=hv.alnum
 have fin:(decide (v=8)||decide (v=6))=false→(i=s.length↔s.all alnum=true):=fun hc=>by
  rw [hc] at hal
  constructor
  ·intro he
   rw [List.all_eq_true]
   intro x hx
   obtain ⟨q,hq,rfl⟩:=List.mem_iff_getElem.1 hx
   exact hall q hq (by omega)
  ·intro ha
   refine Classical.byContradiction fun hne => ?_
   have hlt:i<s.length:=by omega
   have h1:=List.all_eq_true.1 ha _ (List.getElem_mem hlt)
   rw [List.getElem?_eq_getElem hlt] at hal
   exact absurd (hal.trans h1) (by decide)
 have step:(decide (v=8)||decide (v=6))=true→∃ h:i<s.length,alnum s[i]=true:=fun hc=>by
  rw [hc] at hal
  cases hg:s[i]? with
  | none=>rw [hg] at hal; cases hal
  | some b=>
   obtain ⟨hlt,rfl⟩:=List.getElem?_eq_some_iff.1 hg
   rw [hg] at hal
   exact ⟨hlt,hal.symm⟩
 have next:∀ h:i<s.length,∃ v1:Int,fn (n+7) (j+2) (.fn 89) [.ptr m 0,.int .i64 ((i+1:Nat):Int)] (sset st' m (.fix T [.str s,.int .i64 ((i+1:Nat):Int)])) c = .ok (.ret (.int .i64 v1)) (sset st' m (.fix T [.str s,.int .i64 ((i+1:Nat):Int)])) c∧clsIs s (i+1) v1:=fun h=>
  f156 n j (by rw [sget_sset,if_pos rfl]) (by omega)
 have allN:∀ h:i<s.length,alnum s[i]=true→∀ q (h:q<s.length),q<i+1→alnum s[q]=true:=fun h ha q hq hq2=>by
  rcases Nat.lt_succ_iff_lt_or_eq.1 hq2 with h'|rfl
  ·exact hall q hq h'
  ·exact ha
 have hin:i<s.length→wrapD .i64 ((i:Int)+1)=((i+1:Nat):Int):=fun h=>inc_i64 (by omega)
 cases h8:decide (v=8)
 ·cases h6:decide (v=6)
  ·have hf:=fin (by rw [h8,h6]; rfl)
   have b1:bndO s.length s.length (some (.int .i64 (i:Nat)))=some i:=by show bndD s.length (.int .i64 ((i:Nat):Int))=some i; exact bndD_nat hi
   have b2:bndO i 0 (some (.int .i64 0))=some 0:=by show bndD i (.int .i64 ((0:Nat):Int))=some 0; exact bndD_nat (Nat.zero_le _)
   simp only [z2,↓reduceIte,Nat.reduceEqDiff,Nat.reduceAdd,Nat.reduceLeDiff,reduceCtorEq,b1,b2,Option.bind_some,List.drop_zero,hm',q0,q1,q2,q7,q8,h8,h6,zipO,killT,zAny_w,zAny_g,AOp.kd,step_mv,step_pick,step_fa,step_ld,step_bin,step_un,step_nilc,step_slS,List.take_zero,List.all_nil,A90]
   exact ⟨i,st',_,hi,hf,rfl,by simp only [List.length_cons]; omega,hfr⟩
  ·obtain ⟨hlt,ha⟩:=step (by rw [h8,h6]; rfl)
   obtain ⟨v1,hf1,hv1⟩:=next hlt
   simp only [z2,↓reduceIte,Nat.reduceEqDiff,Nat.reduceAdd,Nat.reduceLeDiff,reduceCtorEq,hm',q0,q1,q2,q7,q8,h8,h6,hin hlt,hf1]
   refine ⟨hlt,_,v1,_,rfl,by rw [sget_sset,if_pos rfl],fun x hx=>by rw [sget_sset,if_neg hx]; exact hfr x hx,by simp [ex_val,q0],by simp [ex_val,q1],by simp [ex_val,q2],by simp [ex_val,q7],by simp [ex_val],hv1,allN hlt ha⟩
 ·obtain ⟨hlt,ha⟩:=step (by rw [h8]; rfl)
  obtain ⟨v1,hf1,hv1⟩:=next hlt
  simp only [z2,↓reduceIte,Nat.reduceEqDiff,Nat.reduceAdd,Nat.reduceLeDiff,reduceCtorEq,hm',q0,q1,q2,q7,q8,h8,hin hlt,hf1]
  refine ⟨hlt,_,v1,_,rfl,by rw [sget_sset,if_pos rfl],fun x hx=>by rw [sget_sset,if_neg hx]; exact hfr x hx,by simp [ex_val,q0],by simp [ex_val,q1],by simp [ex_val,q2],by simp [ex_val,q7],by simp [ex_val],hv1,allN hlt ha⟩
end
end Zv
namespace Zv
open Go
noncomputable section
theorem c111 (n:Nat) (s:List UInt8) (hs:s.length<9223372036854775807):cl (n+7) 57 [.agg [.int .i64 1,.int .i64 0,.int .i64 0,.int .i64 0,.str s]]=some (.int .i64 (wordE s),true):=by
 rw [cl_run (A:=A57) rfl (n+7) _ rfl,show A57.body=B57 from rfl]
 simp only [B57,Ab.abq]
 have h16:decide ((16:Int)<(s.length:Int))=decide (16<s.length):=by rw [Bool.eq_iff_iff,decide_eq_true_eq,decide_eq_true_eq]; omega
 have htk:takeAt [.int .i64 1,.int .i64 0,.int .i64 0,.int .i64 0,.str s] 0 (some 5)=some (.agg [.int .i64 1,.int .i64 0,.int .i64 0,.int .i64 0,.str s]):=rfl
 have hcmp:cmpD (.ty (.parts [(0,none,.int),(1,none,.int),(2,none,.int),(3,none,.int),(4,none,.str)])) (.agg [.int .i64 1,.int .i64 0,.int .i64 0,.int .i64 0,.str s]) (.agg [.int .i64 1,.int .i64 0,.int .i64 0,.int .i64 0,.str s])=some true:=by
  simp [cmpD,eqT,eqTs,takeAt]
 simp only [z2,↓reduceIte,Nat.reduceEqDiff,Nat.reduceAdd,Nat.reduceLeDiff,reduceCtorEq,Int.reduceLT,Int.reduceLE,Int.reduceEq,ne_eq,not_true_eq_false,not_false_eq_true,decide_true,decide_false,htk,hcmp,Option.map_some,zipO,killT,zAny_w,zAny_g,AOp.kd,step_mv,step_pick,step_fa,step_ld,step_bin,step_un,List.take_zero,List.all_nil]
 generalize hS:sadd _ 2 _=S
 have hm:sget S 2=some (.fix 218 [.str s,.int .i64 0]):=by rw [←hS]; simp [ex_val]
 have s0:sget S 0=some (.fix 156 [.int .i64 1,.int .i64 0,.int .i64 0,.int .i64 0,.str s]):=by rw [←hS]; simp [ex_val]
 clear hS
 obtain ⟨v,hv1,hv2⟩:=f156 n 4094 (c:=3+10) hm (Nat.zero_le _)
 have hv1':fn (n+7) 4096 (.fn 89) [.ptr 2 0,.int .i64 0] S (3+10) = .ok (.ret (.int .i64 v)) S (3+10):=hv1
 have hw0:wordB s=(decide (v=8)&&s.all alnum):=by
  rw [hv2.1]
  cases s with
  | nil=>rfl
  | cons b r=>rfl
 cases h8:decide (v=8)
 ·have hw:wordB s=false:=by rw [hw0,h8]; rfl
  simp only [z2,↓reduceIte,Nat.reduceEqDiff,Nat.reduceAdd,Nat.reduceLeDiff,reduceCtorEq,List.length_cons,List.length_nil,hv1',ne_eq,decide_not,h8,zipO,killT,zAny_w,zAny_g,AOp.kd,step_mv,step_pick,step_fa,step_ld,step_bin,step_un,List.take_zero,List.all_nil,A57]
  rw [wordE,hw]; rfl
 ·obtain ⟨k,S',c',hk,hka,h157,hc',hfr⟩:=f157 n 4093 (c:=3+10) hm hs
  have h157':fn (n+7) 4096 (.fn 90) [.ptr 2 0,.int .i64 8,.int .i64 6] S (3+10) = .ok (.ret (.str (s.take k))) S' c':=h157
  have s0':sget S' 0=some (.fix 156 [.int .i64 1,.int .i64 0,.int .i64 0,.int .i64 0,.str s]):=by rw [hfr 0 (by omega)]; exact s0
  have hw:wordB s=s.all alnum:=by rw [hw0,h8,Bool.true_and]
  cases ha:s.all alnum
  ·have hne:(s.take k=s)=False:=eq_false fun h=>by
    have:=congrArg List.length h
    rw [List.length_take] at this
    rw [hka.1 (by omega)] at ha; cases ha
   simp only [z2,↓reduceIte,Nat.reduceEqDiff,Nat.reduceAdd,Nat.reduceLeDiff,reduceCtorEq,List.length_cons,List.length_nil,hv1',h157',s0,s0',hne,ne_eq,decide_not,h8,zipO,killT,zAny_w,zAny_g,AOp.kd,step_mv,step_pick,step_fa,step_ld,step_bin,step_un,List.take_zero,List.take_succ_cons,List.all_nil,List.all_cons,sameStep,sd_or,A57]
   rw [wordE,hw,ha]; rfl
  ·have hke:s.take k=s:=by rw [hka.2 ha,List.take_length]
   cases hl:decide (16<s.length)
   ·simp only [z2,↓reduceIte,Nat.reduceEqDiff,Nat.reduceAdd,Nat.reduceLeDiff,reduceCtorEq,List.length_cons,List.length_nil,hv1',h157',s0,s0',hke,ne_eq,decide_not,h8,zipO,killT,zAny_w,zAny_g,AOp.kd,step_mv,step_pick,step_fa,step_ld,step_bin,step_un,List.take_zero,List.take_succ_cons,List.all_nil,List.all_cons,sameStep,sd_or,h16,hl,A57]
    rw [wordE,hw,ha,hl]; rfl
   ·simp only [z2,↓reduceIte,Nat.reduceEqDiff,Nat.reduceAdd,Nat.reduceLeDiff,reduceCtorEq,List.length_cons,List.length_nil,hv1',h157',s0,s0',hke,ne_eq,decide_not,h8,zipO,killT,zAny_w,zAny_g,AOp.kd,step_mv,step_pick,step_fa,step_ld,step_bin,step_un,List.take_zero,List.take_succ_cons,List.all_nil,List.all_cons,sameStep,sd_or,h16,hl,A57]
    rw [wordE,hw,ha,hl]; rfl
theorem tab_ag:(tabL.all fun r=>(!isAg r.2.1&&(!isAg r.2.2.1&&(!isAg r.2.2.2.1 && !isAg r.2.2.2.2))))=true:=by kernel_rfl
theorem c110 (n:Nat) (s:List UInt8):cl (n+2) 56 [.str s]=some (findD s,true):=by
 rw [cl_run (A:=A56) rfl (n+2) _ rfl,show A56.body=B56 from rfl]
 simp only [B56,Ab.abq]
 have hd:=tab_sl
 have hlen:lenD false (.sl true 41 tabC)=some 41:=rfl
 simp only [z2,↓reduceIte,Nat.reduceEqDiff,Nat.reduceAdd,Nat.reduceLeDiff,reduceCtorEq,fn_pure (f:=88) rfl,ex_call,c155,D.pures,Bool.or_true,hlen]
 generalize hz:zloop KK _ _=rl
 refine zrange rl hz 41 (KK_lt (by decide)) (by decide) (fun i t s' c=>tget t 0 = .str s∧tget t 6 = .sl true 41 tabC∧∀ j,j<i→fP s j=none) (by decide) (by simp [ex_val]) (by simp [ex_val]) (by simp [ex_val]) ?_ ?_
 ·rintro i t s' c hi ⟨q0,q6,hn⟩ hti htn
  have hl:i<tabL.length:=by rw [tab_len]; exact hi
  have hrow:=hd.row hl
  have hag:=List.all_eq_true.1 tab_ag _ (List.getElem_mem hl)
  simp only [Bool.and_eq_true,Bool.not_eq_true'] at hag
  obtain ⟨g1,g2,g3,g4⟩:=hag
  have hnm:PN1.getD i []=tabL[i].1:=by rw [←tab_names,List.getD_eq_getElem?_getD,List.getElem?_map,List.getElem?_eq_getElem hl]; rfl
  by_cases h0:i=0
  ·subst h0
   have hp:fP s 0=none:=by unfold fP; rw [if_neg fun h=>absurd h.1 (by omega)]
   simp only [z2,↓reduceIte,Nat.reduceEqDiff,Nat.reduceAdd,Nat.reduceLeDiff,reduceCtorEq,q0,q6,hti,htn,hd.ia hl,hrow,tabE,g1,g2,g3,g4,Bool.or_self,show decide ((0:Int)<((0:Nat):Int))=false from rfl]
   exact ⟨trivial,trivial,trivial,.inr (.inr trivial),nofun,nofun,trivial,trivial,none_step hn hp⟩
  ·have hpos:decide ((0:Int)<(i:Nat))=true:=dT (by omega)
   by_cases he:tabL[i].1=s
   ·have hp:fP s i=some (e2 i 0):=by unfold fP; rw [hnm,if_pos ⟨by omega,he⟩]
    simp only [z2,↓reduceIte,Nat.reduceEqDiff,Nat.reduceAdd,Nat.reduceLeDiff,reduceCtorEq,q0,q6,hti,htn,hd.ia hl,hrow,tabE,g1,g2,g3,g4,Bool.or_self,hpos,he,A56]
    unfold findD
    rw [scan_at hi hp hn]; rfl
   ·have hp:fP s i=none:=by unfold fP; rw [hnm,if_neg fun h=>he h.2]
    simp only [z2,↓reduceIte,Nat.reduceEqDiff,Nat.reduceAdd,Nat.reduceLeDiff,reduceCtorEq,q0,q6,hti,htn,hd.ia hl,hrow,tabE,g1,g2,g3,g4,Bool.or_self,hpos,eq_false he]
    exact ⟨trivial,trivial,trivial,.inr (.inr trivial),nofun,nofun,trivial,trivial,none_step hn hp⟩
 ·rintro t s' c ⟨q0,q6,hn⟩ hti htn
  simp only [z2,↓reduceIte,Nat.reduceEqDiff,Nat.reduceAdd,Nat.reduceLeDiff,reduceCtorEq,q0,q6,hti,htn,A56]
  unfold findD
  rw [scan_end hn]; rfl
theorem c61 (n:Nat) (s:List UInt8) (hs:s.length<9223372036854775807):cl (n+8) 32 [.str s]=some (.bool (isName s),true):=by
 rw [cl_run (A:=A32) rfl (n+8) _ rfl,show A32.body=B32 from rfl]
 simp only [B32,Ab.abq]
 have hres:∀ w∈RW,s=w→isName s=false:=fun w hw e=>by
  have:resB s=true:=by rw [resB,List.contains_iff_mem,e]; exact hw
  rw [isName,this]; simp
 by_cases h0:s=[118,97,114]
 ·have hi:=hres _ (by simp [RW]) h0
  simp only [z2,↓reduceIte,Nat.reduceEqDiff,Nat.reduceAdd,Nat.reduceLeDiff,reduceCtorEq,eq_true h0,decide_true,decide_false,A32]
  rw [hi]; rfl
 by_cases h1:s=[100,101,102]
 ·have hi:=hres _ (by simp [RW]) h1
  simp only [z2,↓reduceIte,Nat.reduceEqDiff,Nat.reduceAdd,Nat.reduceLeDiff,reduceCtorEq,eq_false h0,eq_true h1,decide_true,decide_false,A32]
  rw [hi]; rfl
 by_cases h2:s=[111,117,116]
 ·have hi:=hres _ (by simp [RW]) h2
  simp only [z2,↓reduceIte,Nat.reduceEqDiff,Nat.reduceAdd,Nat.reduceLeDiff,reduceCtorEq,eq_false h0,eq_false h1,eq_true h2,decide_true,decide_false,A32]
  rw [hi]; rfl
 by_cases h3:s=[105,102]
 ·have hi:=hres _ (by simp [RW]) h3
  simp only [z2,↓reduceIte,Nat.reduceEqDiff,Nat.reduceAdd,Nat.reduceLeDiff,reduceCtorEq,eq_false h0,eq_false h1,eq_false h2,eq_true h3,decide_true,decide_false,A32]
  rw [hi]; rfl
 by_cases h4:s=[101,108,115,101]
 ·have hi:=hres _ (by simp [RW]) h4
  simp only [z2,↓reduceIte,Nat.reduceEqDiff,Nat.reduceAdd,Nat.reduceLeDiff,reduceCtorEq,eq_false h0,eq_false h1,eq_false h2,eq_false h3,eq_true h4,decide_true,decide_false,A32]
  rw [hi]; rfl
 by_cases h5:s=[119,104,105,108,101]
 ·have hi:=hres _ (by simp [RW]) h5
  simp only [z2,↓reduceIte,Nat.reduceEqDiff,Nat.reduceAdd,Nat.reduceLeDiff,reduceCtorEq,eq_false h0,eq_false h1,eq_false h2,eq_false h3,eq_false h4,eq_true h5,decide_true,decide_false,A32]
  rw [hi]; rfl
 by_cases h6:s=[101,110,100]
 ·have hi:=hres _ (by simp [RW]) h6
  simp only [z2,↓reduceIte,Nat.reduceEqDiff,Nat.reduceAdd,Nat.reduceLeDiff,reduceCtorEq,eq_false h0,eq_false h1,eq_false h2,eq_false h3,eq_false h4,eq_false h5,eq_true h6,decide_true,decide_false,A32]
  rw [hi]; rfl
 by_cases h7:s=[114,101,108,101,97,115,101]
 ·have hi:=hres _ (by simp [RW]) h7
  simp only [z2,↓reduceIte,Nat.reduceEqDiff,Nat.reduceAdd,Nat.reduceLeDiff,reduceCtorEq,eq_false h0,eq_false h1,eq_false h2,eq_false h3,eq_false h4,eq_false h5,eq_false h6,eq_true h7,decide_true,decide_false,A32]
  rw [hi]; rfl
 by_cases h8:s=[105,110,116]
 ·have hi:=hres _ (by simp [RW]) h8
  simp only [z2,↓reduceIte,Nat.reduceEqDiff,Nat.reduceAdd,Nat.reduceLeDiff,reduceCtorEq,eq_false h0,eq_false h1,eq_false h2,eq_false h3,eq_false h4,eq_false h5,eq_false h6,eq_false h7,eq_true h8,decide_true,decide_false,A32]
  rw [hi]; rfl
 by_cases h9:s=[99,104,97,114]
 ·have hi:=hres _ (by simp [RW]) h9
  simp only [z2,↓reduceIte,Nat.reduceEqDiff,Nat.reduceAdd,Nat.reduceLeDiff,reduceCtorEq,eq_false h0,eq_false h1,eq_false h2,eq_false h3,eq_false h4,eq_false h5,eq_false h6,eq_false h7,eq_false h8,eq_true h9,decide_true,decide_false,A32]
  rw [hi]; rfl
 have hres:resB s=false:=by
  rw [←Bool.not_eq_true,resB,List.contains_iff_mem]
  simp only [RW,List.mem_cons,List.not_mem_nil,or_false,not_or]
  exact ⟨h0,h1,h2,h3,h4,h5,h6,h7,h8,h9⟩
 rcases find_cases s with ⟨p,hf⟩|hf
 ·have hfb:foundB s=true:=by rw [foundB,hf]; rfl
  have hi:isName s=false:=by rw [isName,hfb]; simp
  simp only [z2,↓reduceIte,Nat.reduceEqDiff,Nat.reduceAdd,Nat.reduceLeDiff,reduceCtorEq,eq_false h0,eq_false h1,eq_false h2,eq_false h3,eq_false h4,eq_false h5,eq_false h6,eq_false h7,eq_false h8,eq_false h9,decide_true,decide_false,fn_pure (f:=56) rfl,ex_call,c110,hf,namesD_e2,Int.reduceEq,A32]
  rw [hi]; rfl
 ·have hfb:foundB s=false:=by rw [foundB,hf]; rfl
  have hi:isName s=decide (wordE s=0):=by rw [isName,hfb,hres]; simp
  simp only [z2,↓reduceIte,Nat.reduceEqDiff,Nat.reduceAdd,Nat.reduceLeDiff,reduceCtorEq,eq_false h0,eq_false h1,eq_false h2,eq_false h3,eq_false h4,eq_false h5,eq_false h6,eq_false h7,eq_false h8,eq_false h9,decide_true,decide_false,fn_pure (f:=56) rfl,fn_pure (f:=57) rfl,ex_call,c110,c111 n s hs,hf,namesD_e2,Int.reduceEq,A32]
  rw [hi]; rfl
end
end Zv
