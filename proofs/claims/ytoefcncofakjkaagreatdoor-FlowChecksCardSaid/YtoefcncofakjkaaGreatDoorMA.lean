/- What functions come to: words, names of primitives. Conditions: none. -/
import Derived.Test.YtoefcncofakjkaaGreatDoorLA
set_option linter.unusedVariables false
set_option linter.unusedSimpArgs false
set_option maxRecDepth 100000
namespace Zv
open Go
noncomputable section
theorem c273 (n:Nat) (b:UInt8):cl n 253 [.int .u8 b.toNat]=some (.bool (lowerB b),true):=by
 rw [cl_run (A:=A253) rfl n _ rfl,show A253.body=B253 from rfl,lowerB_eq]
 simp only [B253,Ab.abq]
 cases h3:decide ((97:Int)≤(b.toNat:Int))
 ·simp only [z0,↓reduceIte,Nat.reduceEqDiff,Nat.reduceAdd,Nat.reduceLeDiff,reduceCtorEq,h3,A253]; rfl
 ·simp only [z0,↓reduceIte,Nat.reduceEqDiff,Nat.reduceAdd,Nat.reduceLeDiff,reduceCtorEq,h3,A253]; rfl
theorem c274 (n:Nat) (b:UInt8):cl n 254 [.int .u8 b.toNat]=some (.bool (digitB b),true):=by
 rw [cl_run (A:=A254) rfl n _ rfl,show A254.body=B254 from rfl,digitB_eq]
 simp only [B254,Ab.abq]
 cases h3:decide ((48:Int)≤(b.toNat:Int))
 ·simp only [z0,↓reduceIte,Nat.reduceEqDiff,Nat.reduceAdd,Nat.reduceLeDiff,reduceCtorEq,h3,A254]; rfl
 ·simp only [z0,↓reduceIte,Nat.reduceEqDiff,Nat.reduceAdd,Nat.reduceLeDiff,reduceCtorEq,h3,A254]; rfl
def alnum (b:UInt8):Bool:=lowerB b||digitB b
def wordB (s:List UInt8):Bool:=match s with|[]=>false|b::r=>lowerB b&&(b::r).all alnum
theorem c211 (n:Nat) (s:List UInt8) (hs:s.length<9223372036854775807):cl (n+1) 173 [.str s]=some (.bool (wordB s),true):=by
 rw [cl_run (A:=A173) rfl (n+1) _ rfl,show A173.body=B173 from rfl]
 simp only [B173,Ab.abq]
 cases s with
 | nil=>simp only [z0,↓reduceIte,Nat.reduceEqDiff,Nat.reduceAdd,Nat.reduceLeDiff,reduceCtorEq,A173]; rfl
 | cons b r=>
  have hi0:idxD (b::r).length (.int .i64 0)=some 0:=idxD_0 (by simp)
  have hn:wordB (b::r)=(lowerB b&&(b::r).all alnum):=rfl
  cases hb:lowerB b
  ·simp only [z0,↓reduceIte,Nat.reduceEqDiff,Nat.reduceAdd,Nat.reduceLeDiff,reduceCtorEq,decide_false,List.cons_ne_nil,hi0,List.getElem?_cons_zero,fn_pure (f:=253) rfl,ex_call,c273,hb,A173]
   rw [hn,hb,Bool.false_and]; rfl
  ·simp only [z0,↓reduceIte,Nat.reduceEqDiff,Nat.reduceAdd,Nat.reduceLeDiff,reduceCtorEq,decide_false,List.cons_ne_nil,hi0,List.getElem?_cons_zero,fn_pure (f:=253) rfl,ex_call,c273,hb]
   generalize hz:zloop KK _ _=rl
   refine zfor rl hz (b::r).length (KK_lt hs) hs (fun i t s c=>tget t 0 = .str (b::r)∧∀ j (h:j<(b::r).length),j<i→alnum (b::r)[j]=true) (by simp [ex_val]) (by simp [ex_val]) ?_
   rintro i t s c hi ⟨h0,hall⟩ h3
   have hall':∀ (h:i<(b::r).length),alnum (b::r)[i]=true→∀ j (h:j<(b::r).length),j<i+1→alnum (b::r)[j]=true:=fun h hc j hj hj2=>by
    rcases Nat.lt_succ_iff_lt_or_eq.1 hj2 with h'|rfl
    ·exact hall j hj h'
    ·exact hc
   by_cases hlt:i<(b::r).length
   ·have hd:decide ((i:Int)<((b::r).length:Int))=true:=dT (by omega)
    have hg:(b::r)[i]?=some (b::r)[i]:=List.getElem?_eq_getElem hlt
    have hbad:alnum (b::r)[i]=false→wordB (b::r)=false:=fun h=>by
     rw [hn,show (b::r).all alnum=false from ?_,Bool.and_false]
     rw [←Bool.not_eq_true,List.all_eq_true]
     intro h'
     rw [h' _ (List.getElem_mem hlt)] at h
     cases h
    generalize hch:(b::r)[i]=ch at hg hbad hall'
    cases h1:lowerB ch
    ·cases h2:digitB ch
     ·have hc:alnum ch=false:=by rw [alnum,h1,h2]; rfl
      simp only [z0,↓reduceIte,Nat.reduceEqDiff,Nat.reduceAdd,Nat.reduceLeDiff,reduceCtorEq,hd,h0,h3,idxD_nat hlt,hg,fn_pure (f:=253) rfl,fn_pure (f:=254) rfl,ex_call,c273,c274,h1,h2,A173]
      rw [hbad hc]; rfl
     ·have hc:alnum ch=true:=by rw [alnum,h1,h2]; rfl
      simp only [z0,↓reduceIte,Nat.reduceEqDiff,Nat.reduceAdd,Nat.reduceLeDiff,reduceCtorEq,hd,h0,h3,idxD_nat hlt,hg,fn_pure (f:=253) rfl,fn_pure (f:=254) rfl,ex_call,c273,c274,h1,h2]
      exact ⟨hlt,trivial,trivial,trivial,trivial,hall' hlt (hch ▸ hc)⟩
    ·have hc:alnum ch=true:=by rw [alnum,h1]; rfl
     simp only [z0,↓reduceIte,Nat.reduceEqDiff,Nat.reduceAdd,Nat.reduceLeDiff,reduceCtorEq,hd,h0,h3,idxD_nat hlt,hg,fn_pure (f:=253) rfl,fn_pure (f:=254) rfl,ex_call,c273,c274,h1]
     exact ⟨hlt,trivial,trivial,trivial,trivial,hall' hlt (hch ▸ hc)⟩
   ·have hd:decide ((i:Int)<((b::r).length:Int))=false:=dF (by omega)
    have hok:wordB (b::r)=true:=by
     rw [hn,hb,List.all_eq_true.2]; · rfl
     intro x hx
     obtain ⟨j,hj,rfl⟩:=List.mem_iff_getElem.1 hx
     exact hall j hj (by omega)
    simp only [z0,↓reduceIte,Nat.reduceEqDiff,Nat.reduceAdd,Nat.reduceLeDiff,reduceCtorEq,hd,h0,h3,A173]
    rw [hok]; rfl
/-! Names of primitives. -/
def strOf (d:D):List UInt8:=match d with | .str s=>s|_=>[]
def PN1:List (List UInt8):=match cl 1 172 [] with|some (.sl _ _ l,_)=>[]::l.map strOf|_=>[]
def PN:List (List UInt8):=PN1.tail
theorem c210 (n:Nat):cl (n+1) 172 []=some (.sl true 40 (PN.map D.str),true):=by kernel_rfl
theorem PN_len:PN.length=40:=by kernel_rfl
def fP (s:List UInt8) (i:Nat):Option D:=if 0<i∧PN1.getD i []=s then some (e2 i 0) else none
def findD (s:List UInt8):D:=scan (fP s) (e2 0 4) 41 0
theorem PN1_cons:PN1=[]::PN:=by kernel_rfl
theorem PN_sl:Sl 1 strC PN (.sl true 40 (PN.map D.str)):=by
 refine ⟨fun r hr=>by simp only [List.mem_map] at hr; obtain ⟨s,_,rfl⟩:=hr; rfl,.inr ⟨true,?_⟩⟩
 rw [List.length_map,PN_len]
 have h:∀ l:List (List UInt8),l.map D.str=(l.map strC).flatten:=fun l=>by
  induction l with
  | nil=>rfl
  | cons a l ih=>simp only [List.map_cons,List.flatten_cons,ih,strC]; rfl
 rw [h]
theorem c159 (n:Nat) (s:List UInt8):cl (n+2) 102 [.str s]=some (findD s,true):=by
 rw [cl_run (A:=A102) rfl (n+2) _ rfl,show A102.body=B102 from rfl]
 simp only [B102,Ab.abq]
 have hd:=PN_sl
 simp only [z0,↓reduceIte,Nat.reduceEqDiff,Nat.reduceAdd,Nat.reduceLeDiff,reduceCtorEq,fn_pure (f:=172) rfl,ex_call,c210,hd.nag]
 generalize hz:zloop KK _ _=rl
 refine zfor rl hz 40 (KK_lt (by decide)) (by decide) (fun i t s' c=>tget t 0 = .str s∧tget t 4 = .sl true 40 (PN.map D.str)∧∀ j,j<i+1→fP s j=none) (by simp [ex_val]) (by simp [ex_val,fP]) ?_
 rintro i t s' c hi ⟨q0,q4,hn⟩ q5
 by_cases hlt:i<40
 ·have hl:i<PN.length:=by rw [PN_len]; exact hlt
  have hle:decide ((i:Int)<((40:Nat):Int))=true:=dT (by omega)
  have hg:PN1.getD (i+1) []=PN[i]:=by rw [PN1_cons,List.getD_cons_succ,lgetD hl]
  by_cases he:PN[i]=s
  ·have hp:fP s (i+1)=some (e2 ((i:Int)+1) 0):=by unfold fP; rw [hg,if_pos ⟨by omega,he⟩]; simp
   simp only [z0,↓reduceIte,Nat.reduceEqDiff,Nat.reduceAdd,Nat.reduceLeDiff,reduceCtorEq,q0,q4,q5,hd.len,PN_len,hle,hd.ia1 hl,hd.at1 hl,strC,List.getElem?_cons_zero,decide_eq_true he,A102]
   unfold findD
   rw [scan_at (m:=i+1) (by omega) hp hn,show wrapD .i64 ((i:Int)+1)=((i+1:Nat):Int) from inc_i64 (by omega)]
   rfl
  ·have hp:fP s (i+1)=none:=by unfold fP; rw [hg,if_neg fun h=>he h.2]
   simp only [z0,↓reduceIte,Nat.reduceEqDiff,Nat.reduceAdd,Nat.reduceLeDiff,reduceCtorEq,q0,q4,q5,hd.len,PN_len,hle,hd.ia1 hl,hd.at1 hl,strC,List.getElem?_cons_zero,decide_eq_false he]
   exact ⟨hlt,trivial,trivial,trivial,trivial,trivial,none_step hn hp⟩
 ·have hle:decide ((i:Int)<((40:Nat):Int))=false:=dF (by omega)
  simp only [z0,↓reduceIte,Nat.reduceEqDiff,Nat.reduceAdd,Nat.reduceLeDiff,reduceCtorEq,q0,q4,q5,hd.len,PN_len,hle,A102]
  unfold findD
  rw [scan_end fun j hj=>hn j (by omega)]; rfl
/-! The table. -/
def tabC:List D:=match cl 1 88 [] with|some (.sl _ _ l,_)=>l|_=>[]
theorem c155 (n:Nat):cl (n+1) 88 []=some (.sl true 41 tabC,false):=by kernel_rfl
def tabE (r:List UInt8 × D × D × D × D):List D:=[.str r.1,r.2.1,r.2.2.1,r.2.2.2.1,r.2.2.2.2]
def un5:Nat→List D→List (List UInt8 × D × D × D × D)
 | k+1,.str a::b::c::d::e::r=>(a,b,c,d,e)::un5 k r
 | _,_=>[]
def tabL:List (List UInt8 × D × D × D × D):=un5 41 tabC
theorem tab_eq:tabC=(tabL.map tabE).flatten:=by kernel_rfl
theorem tab_len:tabL.length=41:=by kernel_rfl
theorem tab_names:tabL.map (fun r=>r.1)=PN1:=by kernel_rfl
theorem tab_sl:Sl 5 tabE tabL (.sl true 41 tabC):=
 ⟨fun r hr=>by simp only [List.mem_map] at hr; obtain ⟨p,_,rfl⟩:=hr; rfl,.inr ⟨true,by rw [List.length_map,tab_len,tab_eq]⟩⟩
end
end Zv
namespace Zv
open Go
noncomputable section
def RW:List (List UInt8):=[[118,97,114],[100,101,102],[111,117,116],[105,102],[101,108,115,101],[119,104,105,108,101],[101,110,100],[114,101,108,101,97,115,101],[105,110,116],[99,104,97,114]]
def resB (s:List UInt8):Bool:=RW.contains s
theorem c161 (n:Nat) (s:List UInt8):cl n 104 [.str s]=some (.bool (resB s),true):=by
 rw [cl_run (A:=A104) rfl n _ rfl,show A104.body=B104 from rfl]
 simp only [B104,Ab.abq]
 simp only [z1,↓reduceIte,Nat.reduceEqDiff,Nat.reduceAdd,Nat.reduceLeDiff,reduceCtorEq]
 generalize hz:zloop KK _ _=rl
 refine zfor rl hz 10 (KK_lt (by decide)) (by decide) (fun i t s' c=>tget t 0 = .str s∧tget t 3 = .ms 0 0 1 10 10∧sget s' 0=some (.fix 0 (RW.map D.str))∧∀ j (h:j<RW.length),j<i→RW[j]≠s) (by simp [ex_val]) (by simp [ex_val,RW]) ?_
 rintro i t s' c hi ⟨q0,q3,s0,hn⟩ q4
 have hlen:lenD false (.ms 0 0 1 10 10)=some 10:=rfl
 by_cases hlt:i<10
 ·have hl:i<RW.length:=hlt
  have hle:decide ((i:Int)<((10:Nat):Int))=true:=dT (by omega)
  have hg:(RW.map D.str)[i]?=some (.str RW[i]):=by rw [List.getElem?_map,List.getElem?_eq_getElem hl]; rfl
  have hia:iaSD 1 (.ms 0 0 1 10 10) (.int .i64 (i:Nat))=some (.ptr 0 i):=by simp [iaSD,idxD_nat hlt]
  by_cases he:RW[i]=s
  ·have hr:resB s=true:=by rw [resB,List.contains_iff_mem]; exact he ▸ List.getElem_mem hl
   simp only [z1,↓reduceIte,Nat.reduceEqDiff,Nat.reduceAdd,Nat.reduceLeDiff,reduceCtorEq,q0,q3,q4,s0,hle,hlen,hia,hg,Nat.mul_one,decide_eq_true he,hr,A104]
   rfl
  ·simp only [z1,↓reduceIte,Nat.reduceEqDiff,Nat.reduceAdd,Nat.reduceLeDiff,reduceCtorEq,q0,q3,q4,s0,hle,hlen,hia,hg,Nat.mul_one,decide_eq_false he]
   refine ⟨hlt,trivial,trivial,trivial,trivial,trivial,trivial,fun j hj hj2 => ?_⟩
   rcases Nat.lt_succ_iff_lt_or_eq.1 hj2 with h'|rfl
   ·exact hn j hj h'
   ·exact he
 ·have hle:decide ((i:Int)<((10:Nat):Int))=false:=dF (by omega)
  have hr:resB s=false:=by
   rw [←Bool.not_eq_true,resB,List.contains_iff_mem]
   intro h
   obtain ⟨j,hj,e⟩:=List.mem_iff_getElem.1 h
   exact hn j hj (by have:RW.length=10:=rfl; omega) e
  simp only [z1,↓reduceIte,Nat.reduceEqDiff,Nat.reduceAdd,Nat.reduceLeDiff,reduceCtorEq,q0,q3,q4,s0,hle,hlen,hr,A104]
  rfl
end
end Zv
namespace Zv
open Go
noncomputable section
def wordE (s:List UInt8):Int:=bif wordB s then bif decide (16<s.length) then 3 else 0 else 6
theorem c160 (n:Nat) (s:List UInt8) (hs:s.length<9223372036854775807):cl (n+2) 103 [.agg [.int .i64 1,.int .i64 0,.int .i64 0,.int .i64 0,.str s]]=some (.int .i64 (wordE s),true):=by
 rw [cl_run (A:=A103) rfl (n+2) _ rfl,show A103.body=B103 from rfl]
 simp only [B103,Ab.abq]
 have h16:decide ((16:Int)<(s.length:Int))=decide (16<s.length):=by rw [Bool.eq_iff_iff,decide_eq_true_eq,decide_eq_true_eq]; omega
 cases hw:wordB s
 ·simp only [z1,↓reduceIte,Nat.reduceEqDiff,Nat.reduceAdd,Nat.reduceLeDiff,reduceCtorEq,fn_pure (f:=173) rfl,ex_call,c211 n s hs,hw,Int.reduceLT,Int.reduceLE,Int.reduceEq,ne_eq,not_true_eq_false,not_false_eq_true,decide_true,decide_false,A103]
  rw [wordE,hw]; rfl
 ·cases hl:decide (16<s.length)
  ·simp only [z1,↓reduceIte,Nat.reduceEqDiff,Nat.reduceAdd,Nat.reduceLeDiff,reduceCtorEq,fn_pure (f:=173) rfl,ex_call,c211 n s hs,hw,h16,hl,Int.reduceLT,Int.reduceLE,Int.reduceEq,ne_eq,not_true_eq_false,not_false_eq_true,decide_true,decide_false,A103]
   rw [wordE,hw,hl]; rfl
  ·simp only [z1,↓reduceIte,Nat.reduceEqDiff,Nat.reduceAdd,Nat.reduceLeDiff,reduceCtorEq,fn_pure (f:=173) rfl,ex_call,c211 n s hs,hw,h16,hl,Int.reduceLT,Int.reduceLE,Int.reduceEq,ne_eq,not_true_eq_false,not_false_eq_true,decide_true,decide_false,A103]
   rw [wordE,hw,hl]; rfl
theorem find_cases (s:List UInt8):(∃ p:Nat,findD s=e2 p 0)∨findD s=e2 0 4:=by
 unfold findD
 rcases scan_cases (fP s) (e2 0 4) 41 0 with ⟨_,h⟩|⟨m,r,_,_,h3,_,h5⟩
 ·exact .inr h
 ·rw [h5]
  unfold fP at h3
  split at h3
  ·cases h3; exact .inl ⟨_,rfl⟩
  ·cases h3
def foundB (s:List UInt8):Bool:=match findD s with | .tup [_,.int _ e]=>decide (e=0)|_=>false
def isName (s:List UInt8):Bool:=decide (wordE s=0)&&(!foundB s && !resB s)
theorem c112 (n:Nat) (s:List UInt8) (hs:s.length<9223372036854775807):cl (n+3) 65 [.str s]=some (.bool (isName s),true):=by
 rw [cl_run (A:=A65) rfl (n+3) _ rfl,show A65.body=B65 from rfl]
 simp only [B65,Ab.abq]
 cases hw:decide (wordE s=0)
 ·have hi:isName s=false:=by rw [isName,hw]; rfl
  rcases find_cases s with ⟨p,hf⟩|hf
  ·simp only [z1,↓reduceIte,Nat.reduceEqDiff,Nat.reduceAdd,Nat.reduceLeDiff,reduceCtorEq,fn_pure (f:=102) rfl,fn_pure (f:=103) rfl,ex_call,c159 n s,c160 n s hs,hf,namesD_e2,hw,hi,Int.reduceLT,Int.reduceLE,Int.reduceEq,ne_eq,not_true_eq_false,not_false_eq_true,decide_true,decide_false,A65]
   rfl
  ·simp only [z1,↓reduceIte,Nat.reduceEqDiff,Nat.reduceAdd,Nat.reduceLeDiff,reduceCtorEq,fn_pure (f:=102) rfl,fn_pure (f:=103) rfl,ex_call,c159 n s,c160 n s hs,hf,namesD_e2,hw,hi,Int.reduceLT,Int.reduceLE,Int.reduceEq,ne_eq,not_true_eq_false,not_false_eq_true,decide_true,decide_false,A65]
   rfl
 ·rcases find_cases s with ⟨p,hf⟩|hf
  ·have hfb:foundB s=true:=by rw [foundB,hf]; rfl
   have hi:isName s=false:=by rw [isName,hw,hfb]; rfl
   simp only [z1,↓reduceIte,Nat.reduceEqDiff,Nat.reduceAdd,Nat.reduceLeDiff,reduceCtorEq,fn_pure (f:=102) rfl,fn_pure (f:=103) rfl,ex_call,c159 n s,c160 n s hs,hf,namesD_e2,hw,hi,Int.reduceLT,Int.reduceLE,Int.reduceEq,ne_eq,not_true_eq_false,not_false_eq_true,decide_true,decide_false,A65]
   rfl
  ·have hfb:foundB s=false:=by rw [foundB,hf]; rfl
   have hi:isName s = !resB s:=by rw [isName,hw,hfb]; rfl
   simp only [z1,↓reduceIte,Nat.reduceEqDiff,Nat.reduceAdd,Nat.reduceLeDiff,reduceCtorEq,fn_pure (f:=102) rfl,fn_pure (f:=103) rfl,fn_pure (f:=104) rfl,ex_call,c159 n s,c160 n s hs,c161 (n+2) s,hf,namesD_e2,hw,hi,Int.reduceLT,Int.reduceLE,Int.reduceEq,ne_eq,not_true_eq_false,not_false_eq_true,decide_true,decide_false,A65]
   rfl
end
end Zv
