/- What functions come to: Check of an environment by the document: names, functions. Conditions: none. -/
import Derived.Test.YtnpoohbeicakkaaGreatDoorQC
import Derived.Test.YtnpoohbeicakkaaGreatDoorQB
import Derived.Test.YtnpoohbeicakkaaGreatDoorCA
import Derived.Test.YtnpoohbeicakkaaGreatDoorLA
set_option linter.unusedVariables false
set_option linter.unusedSimpArgs false
set_option maxRecDepth 100000
namespace Zv
open Go
noncomputable section
theorem app_g1 {α:Type} {e:α→List D} (he:EncG 1 e) {sz:Nat} (hsz:sz≤4096) {B:Nat} {t:Tm} {s:St} {c:Nat} {dd:List (D × List D)} {r:Option Nat} {q:D} {L:List α} {k:α} {ty ty':Nat} {b:D} {A:Option (D × AS)} (hA:appD ⟨t,sadd s c (.fix ty' [b]),c+1,dd,r⟩ 1 sz ty q (.ms c 0 1 1 1)=A) (hb:e k=[b]) (hO:OwnG 1 e B s q L) (hL:L.length<4294967295) (hc:B≤c) (hfr:∀ m,c≤m→sget s m=none) :
  ∃ q' s' c',A=some (q',⟨t,s',c',dd,r⟩)∧OwnG 1 e B s' q' (L++[k])∧c+1≤c'∧(∀ m,m<B→sget s' m=sget s m)∧∀ m,c'≤m→sget s' m=none:=by
 subst hA
 obtain ⟨q',s',c',h1,h2,h3,h4,h5⟩:=own_appG he (B:=B) (l:=L) (l':=[k]) (sz:=sz) (ty:=ty) hsz (x:=⟨t,sadd s c (.fix ty' [b]),c+1,dd,r⟩) (q:=q) (b := .ms c 0 1 1 1) rfl
  (hO.keep fun m b _ hb=>by simp only [ex_val]; rw [if_neg (by intro e; rw [e,hfr _ (Nat.le_refl _)] at hb; cases hb)]; exact hb) (by simp only [sliceCells,ex_val,↓reduceIte,cellsG,List.map_cons,List.map_nil,List.flatten_cons,List.flatten_nil,hb]; rfl) (by simp only [List.length_cons,List.length_nil]; omega) (by simp only; omega)
  (fun m hm=>by simp only at hm; simp only [ex_val]; rw [if_neg (by omega)]; exact hfr m (by omega))
 exact ⟨q',s',c',h1,h2,h3,fun m hm=>by rw [h4 m hm]; simp only [ex_val]; rw [if_neg (by omega)],h5⟩
def twP (L:List (List UInt8)) (s:List UInt8) (i:Nat):Option Int:=match L[i]? with|some x=>if x=s then some 8 else none|none=>none
theorem tw_scan (L:List (List UInt8)) (s:List UInt8):scan (twP L s) 0 L.length 0=if s∈L then 8 else 0:=by
 rcases scan_cases (twP L s) (0:Int) L.length 0 with ⟨h1,h2⟩|⟨m,r,_,hm,h3,_,h5⟩
 ·rw [h2,if_neg]
  intro h
  obtain ⟨j,hj,rfl⟩:=List.getElem_of_mem h
  have:=h1 j (by omega) (by omega)
  rw [twP,List.getElem?_eq_getElem hj] at this
  simp at this
 ·rw [h5]
  have hm':m<L.length:=by omega
  rw [twP,List.getElem?_eq_getElem hm'] at h3
  simp only at h3
  split at h3
  ·rename_i h; cases h3; rw [if_pos (h ▸ List.getElem_mem hm')]
  ·cases h3
theorem c63 (n:Nat) {s:List UInt8} (hs:s.length<9223372036854775807) {L:List (List UInt8)} {d:D} (hd:Sl 1 strC L d) (hl:L.length<9223372036854775807):cl (n+4) 63 [.str s,d]=some (.int .i64 (nameE s L),true):=by
 rw [cl_run (A:=A63) rfl (n+4) _ rfl,show A63.body=B63 from rfl]
 unfold B63 nameE
 have h112:=c112 n s hs
 cases hb:isName s
 ·rw [hb] at h112
  simp only [start_eq,argTm,exq,ex_ls1,exb,Ab.abq,↓reduceIte,Nat.reduceEqDiff,Nat.reduceAdd,Nat.reduceLeDiff,reduceCtorEq,fn_pure (f:=112) rfl,ex_call,h112,nb,A63]; rfl
 ·rw [hb] at h112
  rw [if_pos rfl,←tw_scan]
  simp only [start_eq,argTm,exq,ex_ls1,exb,Ab.abq,↓reduceIte,Nat.reduceEqDiff,Nat.reduceAdd,Nat.reduceLeDiff,reduceCtorEq,fn_pure (f:=112) rfl,ex_call,h112,nb]
  generalize hz:zloop KK _ _=rl
  refine zfor rl hz L.length (KK_lt hl) hl (fun i t st c=>tget t 0 = .str s∧tget t 1=d∧∀ j,j<i→twP L s j=none) (by simp [ex_val]) (by simp [ex_val]) ?_
  rintro i t st c hi ⟨q0,q1,hn⟩ q5
  by_cases hlt:i<L.length
  ·by_cases e:L[i]=s
   ·have hp:twP L s i=some 8:=by rw [twP,List.getElem?_eq_getElem hlt]; exact if_pos e
    simp only [start_eq,argTm,exq,ex_ls1,exb,Ab.abq,↓reduceIte,Nat.reduceEqDiff,Nat.reduceAdd,Nat.reduceLeDiff,reduceCtorEq,q0,q1,q5,hd.len,lt_dec hlt,hd.ia1 hlt,hd.at1 hlt,strC,decide_eq_true e,nb,A63]
    rw [scan_at hlt hp hn]; rfl
   ·have hp:twP L s i=none:=by rw [twP,List.getElem?_eq_getElem hlt]; exact if_neg e
    simp only [start_eq,argTm,exq,ex_ls1,exb,Ab.abq,↓reduceIte,Nat.reduceEqDiff,Nat.reduceAdd,Nat.reduceLeDiff,reduceCtorEq,q0,q1,q5,hd.len,lt_dec hlt,hd.ia1 hlt,hd.at1 hlt,strC,decide_eq_false e,nb]
    exact ⟨hlt,trivial,trivial,trivial,trivial,trivial,none_step hn hp⟩
  ·have e1:i=L.length:=by omega
   subst e1
   rw [scan_end hn]
   simp only [start_eq,argTm,exq,ex_ls1,exb,Ab.abq,↓reduceIte,Nat.reduceEqDiff,Nat.reduceAdd,Nat.reduceLeDiff,reduceCtorEq,q0,q1,q5,hd.len,ge_dec (Nat.le_refl L.length),A63]
   rfl
theorem c64 (n:Nat) {x:Fd} (hx:FdOk x):cl (n+404) 64 [.agg [.str x.name,x.pd,x.bd]]=some (.int .i64 (defE x),true):=by
 rw [cl_run (A:=A64) rfl (n+404) _ rfl,show A64.body=B64 from rfl]
 obtain ⟨xn,ps,bo,pd,bd⟩:=x
 have h48:=c48 n hx.b hx.bl hx.nd
 obtain ⟨T,x,y,_,h1,_⟩:=c79 n hx.b hx.bl hx.nd
 have h2:=exE_eq h1
 rw [h1] at h48
 have hp:=hx.p
 have hlen:=hp.len
 have hfz:=hx.b.fz
 have hpn:=hp.nag
 have hbn:=hx.b.nag
 have hpl:=hx.pl
 have hnm:=hx.pn
 unfold B64 defE
 simp only at *
 rw [h2]
 by_cases hl:ps.length=1∨ps.length=2
 ·have k1:decide ((ps.length:Int)<1)=false:=by rw [decide_eq_false_iff_not]; omega
  have k2:decide ((2:Int)<(ps.length:Int))=false:=by rw [decide_eq_false_iff_not]; omega
  rw [if_pos hl]
  simp only [start_eq,argTm,exq,ex_ls1,exb,Ab.abq,↓reduceIte,Nat.reduceEqDiff,Nat.reduceAdd,Nat.reduceLeDiff,reduceCtorEq,hlen,k1,k2,hpn,hbn,nb]
  generalize hz:zloop KK _ _=rl
  refine zfor rl hz ps.length (KK_lt hpl) hpl (fun i t s c=>sget s 0=some (.fix 79 [.str xn,pd,bd])∧tget t 1 = .ptr 0 0∧∀ j,j<i→∀ h:j<ps.length,isName ps[j]=true) (by simp [ex_val]) (by simp [ex_val]) ?_
  rintro i t s c hi ⟨s0,q1,hn⟩ q3
  by_cases hlt:i<ps.length
  ·have h112:=c112 (n+400) ps[i] (hnm _ (List.getElem_mem hlt))
   cases hb:isName ps[i]
   ·have ha:¬ ps.all isName=true:=fun h=>by
     have:=List.all_eq_true.1 h _ (List.getElem_mem hlt)
     rw [hb] at this; cases this
    rw [hb] at h112
    rw [if_neg ha]
    simp only [start_eq,argTm,exq,ex_ls1,exb,Ab.abq,↓reduceIte,Nat.reduceEqDiff,Nat.reduceAdd,Nat.reduceLeDiff,reduceCtorEq,s0,q1,q3,hlen,lt_dec hlt,hp.ia1 hlt,hp.at1 hlt,strC,fn_pure (f:=112) rfl,ex_call,h112,nb,A64]; rfl
   ·rw [hb] at h112
    simp only [start_eq,argTm,exq,ex_ls1,exb,Ab.abq,↓reduceIte,Nat.reduceEqDiff,Nat.reduceAdd,Nat.reduceLeDiff,reduceCtorEq,s0,q1,q3,hlen,lt_dec hlt,hp.ia1 hlt,hp.at1 hlt,strC,fn_pure (f:=112) rfl,ex_call,h112,nb]
    refine ⟨hlt,trivial,trivial,trivial,trivial,trivial,fun j hj h => ?_⟩
    rcases Nat.lt_succ_iff_lt_or_eq.1 hj with h'|rfl
    ·exact hn j h' h
    ·exact hb
  ·have e1:i=ps.length:=by omega
   subst e1
   have ha:ps.all isName=true:=List.all_eq_true.2 fun y hy=>by
    obtain ⟨j,hj,rfl⟩:=List.getElem_of_mem hy
    exact hn j hj hj
   rw [if_pos ha]
   clear hn
   have q3':=q3
   clear q3
   rcases hl with hl|hl
   ·obtain ⟨a,rfl⟩:∃ a,ps=[a]:=by
     match ps,hl with
     | [a],_=>exact ⟨a,rfl⟩
    rw [if_neg (by simp)]
    have k2:decide ((([a]:List (List UInt8)).length:Int)=2)=false:=rfl
    simp only [start_eq,argTm,exq,ex_ls1,exb,Ab.abq,↓reduceIte,Nat.reduceEqDiff,Nat.reduceAdd,Nat.reduceLeDiff,reduceCtorEq,s0,q1,q3',hlen,ge_dec (Nat.le_refl ([a]:List (List UInt8)).length),k2,zipO,killT,AOp.kd,zop,tks,sameStep,sd_or,fn_pure (f:=48) rfl,ex_call,hfz,h48,namesD_e2,nb,A64]
    rfl
   ·obtain ⟨a,b,rfl⟩:∃ a b,ps=[a,b]:=by
     match ps,hl with
     | [a,b],_=>exact ⟨a,b,rfl⟩
    have k2:decide ((([a,b]:List (List UInt8)).length:Int)=2)=true:=rfl
    have ia:iaSD 1 pd (.int .i64 0)=some (.iptr ([a,b].map strC).flatten 0):=hp.ia1 (i:=0) (by simp)
    have ib:iaSD 1 pd (.int .i64 1)=some (.iptr ([a,b].map strC).flatten 1):=hp.ia1 (i:=1) (by simp)
    have at0:([a,b].map strC).flatten[0]?=some (.str a):=rfl
    have at1:([a,b].map strC).flatten[1]?=some (.str b):=rfl
    by_cases hab:a=b
    ·rw [if_pos ⟨rfl,by simpa using hab⟩]
     simp only [start_eq,argTm,exq,ex_ls1,exb,Ab.abq,↓reduceIte,Nat.reduceEqDiff,Nat.reduceAdd,Nat.reduceLeDiff,reduceCtorEq,s0,q1,q3',hlen,ge_dec (Nat.le_refl ([a,b]:List (List UInt8)).length),k2,ia,ib,at0,at1,decide_eq_true hab,zipO,killT,AOp.kd,zop,tks,sameStep,sd_or,fn_pure (f:=48) rfl,ex_call,hfz,h48,namesD_e2,nb,A64]
     rfl
    ·rw [if_neg (fun h=>hab (by simpa using h.2))]
     simp only [start_eq,argTm,exq,ex_ls1,exb,Ab.abq,↓reduceIte,Nat.reduceEqDiff,Nat.reduceAdd,Nat.reduceLeDiff,reduceCtorEq,s0,q1,q3',hlen,ge_dec (Nat.le_refl ([a,b]:List (List UInt8)).length),k2,ia,ib,at0,at1,decide_eq_false hab,zipO,killT,AOp.kd,zop,tks,sameStep,sd_or,fn_pure (f:=48) rfl,ex_call,hfz,h48,namesD_e2,nb,A64]
     rfl
 ·rw [if_neg hl]
  by_cases h1:ps.length<1
  ·have k1:decide ((ps.length:Int)<1)=true:=by rw [decide_eq_true_eq]; omega
   simp only [start_eq,argTm,exq,ex_ls1,exb,Ab.abq,↓reduceIte,Nat.reduceEqDiff,Nat.reduceAdd,Nat.reduceLeDiff,reduceCtorEq,hlen,k1,hpn,hbn,nb,A64]
   rfl
  ·have k1:decide ((ps.length:Int)<1)=false:=by rw [decide_eq_false_iff_not]; omega
   have k2:decide ((2:Int)<(ps.length:Int))=true:=by rw [decide_eq_true_eq]; omega
   simp only [start_eq,argTm,exq,ex_ls1,exb,Ab.abq,↓reduceIte,Nat.reduceEqDiff,Nat.reduceAdd,Nat.reduceLeDiff,reduceCtorEq,hlen,k1,k2,hpn,hbn,nb,A64]
   rfl
end
end Zv
namespace Zv
open Go Ab
noncomputable section
def W23:AC:=(s (s (r [c 8 (i 0)]) (.block 4 (.loop (s (s (r [m 71 8,f 72 3 1,l 73 72,u 74 (.len false (.t 73)),b 75 .lss 71 74]) (.cond (.t 75) .skip (.exit 4))) (s (.block 6 (s (r [f 78 3 1,l 79 78,m 80 8,u 81 (.iaS 3 (.t 79) (.t 80)),f 82 0 81,l 83 82,m 84 5,u 85 (.call 63 [(.t 83),(.t 84)]),m 9 85]) (s (s (r [m 86 9,d 87 .eql 86 (i 0)]) (.cond (.t 87) (r [f 88 3 1,l 89 88,m 90 8,u 91 (.iaS 3 (.t 89) (.t 90)),u 92 (.ld (some 3) (.t 91)),u 93 (.call 64 [(.t 92)]),m 9 93]) .skip)) (s (s (r [m 94 9,d 95 .neq 94 (i 0)]) (.cond (.t 95) (s (r [m 96 9,m 2 96]) .ret) .skip)) (r [m 97 5,f 98 3 1,l 99 98,m 100 8,u 101 (.iaS 3 (.t 99) (.t 100)),f 102 0 101,l 103 102,u 104 (.bsl 1 1 [(.str [])] [(0,1,(.t 103))]),u 105 (.app 1 16 10 (.t 97) (.t 104)),m 5 105]))))) (r [m 76 8,d 77 .add 76 (i 1),m 8 77])))))) (s (r [c 2 (i 0)]) .ret))
def U23:AC:=(s (s (r [c 6 (i 0)]) (.block 0 (.loop (s (s (r [m 33 6,f 34 2 1,l 35 34,u 36 (.len false (.t 35)),b 37 .lss 33 36]) (.cond (.t 37) .skip (.exit 0))) (s (.block 2 (s (r [f 40 2 1,l 41 40,m 42 6,u 43 (.iaS 6 (.t 41) (.t 42)),f 44 0 43,l 45 44,m 46 5,u 47 (.call 63 [(.t 45),(.t 46)]),m 7 47]) (s (s (r [m 48 7,d 49 .eql 48 (i 0)]) (.cond (.t 49) (.reg (some [(0,0),(1,0),(2,0),(3,0),(4,0),(5,0),(6,0),(7,0),(8,0),(9,0)]) [f 50 0 1,u 51 (.ld (some 2) (.t 50)),f 52 2 1,l 53 52,m 54 6,u 55 (.iaS 6 (.t 53) (.t 54)),f 56 1 55,u 57 (.ld (some 5) (.t 56)),u 58 (.call 55 [(.t 51),(.t 57)]),m 7 58]) .skip)) (s (s (r [m 59 7,d 60 .neq 59 (i 0)]) (.cond (.t 60) (s (r [m 61 7,m 2 61]) .ret) .skip)) (r [m 62 5,f 63 2 1,l 64 63,m 65 6,u 66 (.iaS 6 (.t 64) (.t 65)),f 67 0 66,l 68 67,u 69 (.bsl 1 1 [(.str [])] [(0,1,(.t 68))]),u 70 (.app 1 16 10 (.t 62) (.t 69)),m 5 70]))))) (r [m 38 6,d 39 .add 38 (i 1),m 6 39])))))) W23)
theorem B23_eq:B23=(s (r [u 1 (.new 30 (.t 0)),c 2 (i 0)]) (s (r [f 11 0 1,u 12 (.ld (some 2) (.t 11)),u 13 (.call 54 [(.t 12)]),m 10 13,e 14 0 10,e 15 1 10,m 3 14,m 4 15]) (s (s (r [m 16 4,d 17 .eql 16 (i 0),m 18 17,y 19 18 (.fa 2 (.t 1)),y 20 18 (.ld none (.t 19)),y 21 18 (.len false (.t 20)),y 22 18 (.bin .gtr (.t 21) (.c (i 32))),my 23 22 18,n 24 23 (.fa 3 (.t 1)),n 25 23 (.ld none (.t 24)),n 26 23 (.len false (.t 25)),n 27 23 (.bin .gtr (.t 26) (.c (i 16))),y 28 18 (.pick (.t 23) (.c (.bool true)) (.t 27)),u 29 (.pick (.t 18) (.t 28) (.c (.bool false)))]) (.cond (.t 29) (r [c 4 (i 3)]) .skip)) (s (s (r [m 30 4,d 31 .neq 30 (i 0)]) (.cond (.t 31) (s (r [m 32 4,m 2 32]) .ret) .skip)) (s (r [c 5 .nils]) U23))))):=rfl
structure I23 (d e v f:D) (L:List (List UInt8)) (t:Tm) (s:St) (c:Nat):Prop where
 s0:sget s 0=some (.fix 30 [d,e,v,f])
 hc:1≤c
 hf:∀ m,c≤m→sget s m=none
 own:OwnG 1 strC 1 s (tget t 5) L
 q1:tget t 1 = .ptr 0 0
def Out23 (n:Nat) (r:R) (e:Int):Prop:=pout (zbody (dfn n MM) A23 r)=some (.int .i64 e,true)
theorem W23_ok (n:Nat) {d e v f:D} {vs:List Vr} {fs:List Fd} (hE:EnvOk vs fs v f) (hv:vs.length≤32) (hfl:fs.length≤16) {t:Tm} {s:St} {c:Nat} (hI:I23 d e v f (vs.map Vr.name) t s c) :
  Out23 (n+405) (zC W23 (cxn (n+405)) (fn (n+405) 4096) KK ⟨t,s,c,[],none⟩) (scan (dfP vs fs) 0 fs.length 0):=by
 simp only [W23,Ab.abq]
 simp only [start_eq,argTm,exq,ex_ls1,exb,Ab.abq,↓reduceIte,Nat.reduceEqDiff,Nat.reduceAdd,Nat.reduceLeDiff,reduceCtorEq]
 generalize hz:zloop KK _ _=rl
 refine zfor rl hz fs.length (KK_lt hE.fl) hE.fl (fun i t s c=>I23 d e v f (vs.map Vr.name++(fs.take i).map Fd.name) t s c∧∀ j,j<i→dfP vs fs j=none) (by simp [ex_val])
  ⟨by rw [List.take_zero,List.map_nil,List.append_nil]; exact ⟨hI.s0,hI.hc,hI.hf,by simp only [ex_val]; exact hI.own,by simp [ex_val,hI.q1]⟩,nofun⟩ ?_
 clear hI hz
 rintro i t s c hi ⟨hI,hn⟩ q8
 by_cases hlt:i<fs.length
 ·have hrow:=hE.f.row hlt
  have hok:=hE.fo _ (List.getElem_mem hlt)
  have hll:(vs.map Vr.name++(fs.take i).map Fd.name).length<1000:=by rw [List.length_append,List.length_map,List.length_map,List.length_take]; omega
  obtain ⟨r,hr,hrs⟩:=hI.own.fz enc_str false
  have h63:=c63 (n+400) hok.nm hrs (by omega)
  have h64:=c64 n hok
  have hgl:fs[i]?=some fs[i]:=List.getElem?_eq_getElem hlt
  have hst:=take_map_succ Fd.name hlt
  have hP:dfP vs fs i=if nameE fs[i].name (vs.map Vr.name++(fs.take i).map Fd.name)=0 then (if defE fs[i]=0 then none else some (defE fs[i])) else some (nameE fs[i].name (vs.map Vr.name++(fs.take i).map Fd.name)):=by rw [dfP,hgl]
  have g0:=hE.f.cell hlt (show 0<3 by omega)
  have hpn:=hok.p.nag
  have hbn:=hok.b.nag
  have hpf:=hok.p.fz
  have hbf:=hok.b.fz
  rw [hst,←List.append_assoc]
  generalize hN:nameE fs[i].name (vs.map Vr.name++(fs.take i).map Fd.name)=en at *
  generalize hL:vs.map Vr.name++(fs.take i).map Fd.name=L at *
  by_cases h0:en=0
  ·subst h0
   simp only [if_true] at hP
   by_cases h1:defE fs[i]=0
   ·rw [if_pos h1] at hP
    rw [h1] at h64
    have hO:=hI.own
    simp only [start_eq,argTm,exq,ex_ls1,exb,Ab.abq,↓reduceIte,Nat.reduceEqDiff,Nat.reduceAdd,Nat.reduceLeDiff,reduceCtorEq,hI.q1,q8,hE.f.len,lt_dec hlt,hE.f.ia hlt,hrow,fdC,g0,hI.s0,hpn,hbn,fn_pure (f:=63) rfl,fn_pure (f:=64) rfl,ex_call,hr,h63,hpf,hbf,h64,nb]
    generalize hA:appD _ 1 16 10 _ _=A
    obtain ⟨q',s',c',rfl,hO',hc',hfs,hfr'⟩:=app_g1 enc_str (by decide) (B:=1) (k:=fs[i].name) hA rfl hO (by omega) hI.hc hI.hf
    simp only [start_eq,argTm,exq,ex_ls1,exb,Ab.abq,↓reduceIte,Nat.reduceEqDiff,Nat.reduceAdd,Nat.reduceLeDiff,reduceCtorEq]
    exact ⟨hlt,trivial,trivial,by simp [ex_val,q8],⟨by rw [hfs 0 (by decide)]; exact hI.s0,by omega,hfr',by simp only [ex_val]; exact hO',by simp [ex_val,hI.q1]⟩,none_step hn hP⟩
   ·rw [if_neg h1] at hP
    simp only [start_eq,argTm,exq,ex_ls1,exb,Ab.abq,↓reduceIte,Nat.reduceEqDiff,Nat.reduceAdd,Nat.reduceLeDiff,reduceCtorEq,hI.q1,q8,hE.f.len,lt_dec hlt,hE.f.ia hlt,hrow,fdC,g0,hI.s0,hpn,hbn,fn_pure (f:=63) rfl,fn_pure (f:=64) rfl,ex_call,hr,h63,hpf,hbf,h64,decide_eq_false h1,nb]
    rw [scan_at hlt hP hn]
    unfold Out23
    simp only [start_eq,argTm,exq,ex_ls1,exb,Ab.abq,↓reduceIte,Nat.reduceEqDiff,Nat.reduceAdd,Nat.reduceLeDiff,reduceCtorEq,A23]; rfl
  ·simp only [if_neg h0] at hP
   simp only [start_eq,argTm,exq,ex_ls1,exb,Ab.abq,↓reduceIte,Nat.reduceEqDiff,Nat.reduceAdd,Nat.reduceLeDiff,reduceCtorEq,hI.q1,q8,hE.f.len,lt_dec hlt,hE.f.ia hlt,hrow,fdC,g0,hI.s0,hpn,hbn,fn_pure (f:=63) rfl,ex_call,hr,h63,decide_eq_false h0,nb]
   rw [scan_at hlt hP hn]
   unfold Out23
   simp only [start_eq,argTm,exq,ex_ls1,exb,Ab.abq,↓reduceIte,Nat.reduceEqDiff,Nat.reduceAdd,Nat.reduceLeDiff,reduceCtorEq,A23]; rfl
 ·have e1:i=fs.length:=by omega
  subst e1
  rw [scan_end hn]
  unfold Out23
  simp only [start_eq,argTm,exq,ex_ls1,exb,Ab.abq,↓reduceIte,Nat.reduceEqDiff,Nat.reduceAdd,Nat.reduceLeDiff,reduceCtorEq,hI.q1,q8,hE.f.len,hI.s0,ge_dec (Nat.le_refl fs.length),A23]
  rfl
theorem U23_ok (n:Nat) {ss:List (List UInt8)} {us:List Nat} {d e v f:D} {vs:List Vr} {fs:List Fd} (hd:Sl 1 strC ss d) (he:Sl 1 u8C us e) (hu:Bytes8 us) (hC:CHK ss us=e2 0 0) (hE:EnvOk vs fs v f) (hv:vs.length≤32) (hfl:fs.length≤16) {t:Tm} {s:St} {c:Nat} (hI:I23 d e v f [] t s c) :
  Out23 (n+405) (zC U23 (cxn (n+405)) (fn (n+405) 4096) KK ⟨t,s,c,[],none⟩) (scan (vP us vs) (scan (dfP vs fs) 0 fs.length 0) vs.length 0):=by
 obtain ⟨hul,⟨h1,h8⟩,_⟩:=CHK_ord hC
 simp only [U23,Ab.abq]
 simp only [start_eq,argTm,exq,ex_ls1,exb,Ab.abq,↓reduceIte,Nat.reduceEqDiff,Nat.reduceAdd,Nat.reduceLeDiff,reduceCtorEq]
 generalize hz:zloop KK _ _=rl
 refine zfor rl hz vs.length (KK_lt hE.vl) hE.vl (fun i t s c=>I23 d e v f ((vs.take i).map Vr.name) t s c∧∀ j,j<i→vP us vs j=none) (by simp [ex_val])
  ⟨⟨hI.s0,hI.hc,hI.hf,by simp only [ex_val]; exact hI.own,by simp [ex_val,hI.q1]⟩,nofun⟩ ?_
 clear hI hz
 rintro i t s c hi ⟨hI,hn⟩ q6
 by_cases hlt:i<vs.length
 ·have hrow:=hE.v.row hlt
  have hll:((vs.take i).map Vr.name).length<1000:=by rw [List.length_map,List.length_take]; omega
  obtain ⟨r,hr,hrs⟩:=hI.own.fz enc_str false
  have h63:=c63 (n+400) (hE.vn _ (List.getElem_mem hlt)) hrs (by omega)
  have h55:=c55 (n+402) hd he hu hul (by omega) (by omega) vs[i].ty
  have hgl:vs[i]?=some vs[i]:=List.getElem?_eq_getElem hlt
  have hst:=take_map_succ Vr.name hlt
  have hP:vP us vs i=if nameE vs[i].name ((vs.take i).map Vr.name)=0 then (if tyE us (lowI us) vs[i].ty=0 then none else some (tyE us (lowI us) vs[i].ty)) else some (nameE vs[i].name ((vs.take i).map Vr.name)):=by rw [vP,hgl]
  have g0:=hE.v.cell hlt (show 0<6 by omega)
  have htk:takeAt [d,e,v,f] 0 (some 2)=some (.agg [d,e]):=rfl
  have htk5:takeAt (vs.map vrC).flatten (i*6+1) (some 5)=some (.agg (tyC vs[i].ty)):=by
   have hb:=IsSl.ble hE.v (i:=i) (by rw [List.length_map]; exact hlt)
   have h2:=IsSl.tk hE.v (i:=i) (by rw [List.length_map]; exact hlt)
   rw [List.getElem_map] at h2
   simp only [takeAt]
   rw [Nat.ble_eq_true_of_le (by omega),cond_true]
   have:((vs.map vrC).flatten.drop (i*6+1)).take 5=(((vs.map vrC).flatten.drop (i*6)).take 6).drop 1:=by rw [List.drop_take,List.drop_drop]
   rw [this,h2]; rfl
  rw [hst]
  simp only [tyC] at h55 htk5
  generalize hN:nameE vs[i].name ((vs.take i).map Vr.name)=en at *
  generalize hT:tyE us (lowI us) vs[i].ty=et at *
  generalize hL:(vs.take i).map Vr.name=L at *
  by_cases h0:en=0
  ·subst h0
   simp only [if_true] at hP
   by_cases h1:et=0
   ·subst h1
    rw [if_pos rfl] at hP
    have hO:=hI.own
    simp only [start_eq,argTm,exq,ex_ls1,exb,Ab.abq,↓reduceIte,Nat.reduceEqDiff,Nat.reduceAdd,Nat.reduceLeDiff,reduceCtorEq,hI.q1,q6,hE.v.len,lt_dec hlt,hE.v.ia hlt,vrC,g0,hI.s0,hd.nag,he.nag,fn_pure (f:=63) rfl,fn_pure (f:=55) rfl,ex_call,hr,h63,hd.fz,he.fz,htk,htk5,h55,zipO,killT,AOp.kd,zop,tks,sameStep,sd_or,nb]
    generalize hA:appD _ 1 16 10 _ _=A
    obtain ⟨q',s',c',rfl,hO',hc',hfs,hfr'⟩:=app_g1 enc_str (by decide) (B:=1) (k:=vs[i].name) hA rfl hO (by omega) (Nat.le_trans hI.hc (Nat.le_add_right _ _)) (fun m hm=>hI.hf m (by simp only [List.length_cons,List.length_nil] at hm; omega))
    simp only [start_eq,argTm,exq,ex_ls1,exb,Ab.abq,↓reduceIte,Nat.reduceEqDiff,Nat.reduceAdd,Nat.reduceLeDiff,reduceCtorEq]
    exact ⟨hlt,trivial,trivial,by simp [ex_val,q6],⟨by rw [hfs 0 (by decide)]; exact hI.s0,by omega,hfr',by simp only [ex_val]; exact hO',by simp [ex_val,hI.q1]⟩,none_step hn hP⟩
   ·rw [if_neg h1] at hP
    simp only [start_eq,argTm,exq,ex_ls1,exb,Ab.abq,↓reduceIte,Nat.reduceEqDiff,Nat.reduceAdd,Nat.reduceLeDiff,reduceCtorEq,hI.q1,q6,hE.v.len,lt_dec hlt,hE.v.ia hlt,vrC,g0,hI.s0,hd.nag,he.nag,fn_pure (f:=63) rfl,fn_pure (f:=55) rfl,ex_call,hr,h63,hd.fz,he.fz,htk,htk5,h55,zipO,killT,AOp.kd,zop,tks,sameStep,sd_or,decide_eq_false h1,nb]
    rw [scan_at hlt hP hn]
    unfold Out23
    simp only [start_eq,argTm,exq,ex_ls1,exb,Ab.abq,↓reduceIte,Nat.reduceEqDiff,Nat.reduceAdd,Nat.reduceLeDiff,reduceCtorEq,A23]; rfl
  ·simp only [if_neg h0] at hP
   simp only [start_eq,argTm,exq,ex_ls1,exb,Ab.abq,↓reduceIte,Nat.reduceEqDiff,Nat.reduceAdd,Nat.reduceLeDiff,reduceCtorEq,hI.q1,q6,hE.v.len,lt_dec hlt,hE.v.ia hlt,vrC,g0,hI.s0,fn_pure (f:=63) rfl,ex_call,hr,h63,decide_eq_false h0,nb]
   rw [scan_at hlt hP hn]
   unfold Out23
   simp only [start_eq,argTm,exq,ex_ls1,exb,Ab.abq,↓reduceIte,Nat.reduceEqDiff,Nat.reduceAdd,Nat.reduceLeDiff,reduceCtorEq,A23]; rfl
 ·have e1:i=vs.length:=by omega
  subst e1
  rw [List.take_length] at hI
  rw [scan_end hn]
  simp only [start_eq,argTm,exq,ex_ls1,exb,Ab.abq,↓reduceIte,Nat.reduceEqDiff,Nat.reduceAdd,Nat.reduceLeDiff,reduceCtorEq,hI.q1,q6,hE.v.len,hI.s0,ge_dec (Nat.le_refl vs.length)]
  exact W23_ok n hE hv hfl ⟨hI.s0,hI.hc,hI.hf,by simp only [ex_val]; exact hI.own,by simp [ex_val,hI.q1]⟩
theorem c23e (n:Nat) {ss:List (List UInt8)} {us:List Nat} {d e v f:D} {vs:List Vr} {fs:List Fd} (hd:Sl 1 strC ss d) (he:Sl 1 u8C us e) (hu:Bytes8 us) (hs:Small ss) {x er:Int} (hC:CHK ss us=e2 x er) (h0:er≠0) (hE:EnvOk vs fs v f):cl (n+405) 23 [.agg [d,e,v,f]]=some (.int .i64 er,true):=by
 rw [cl_run (A:=A23) rfl (n+405) _ rfl,show A23.body=B23 from rfl,B23_eq]
 have h54:=c54 (n+401) hd he hu hs
 rw [hC] at h54
 have htk:takeAt [d,e,v,f] 0 (some 2)=some (.agg [d,e]):=rfl
 simp only [start_eq,argTm,exq,ex_ls1,exb,Ab.abq,↓reduceIte,Nat.reduceEqDiff,Nat.reduceAdd,Nat.reduceLeDiff,reduceCtorEq,hd.nag,he.nag,hE.v.nag,hE.f.nag,htk,fn_pure (f:=54) rfl,ex_call,hd.fz,he.fz,h54,namesD_e2,decide_eq_false h0,nb,A23]
 rfl
theorem c23 (n:Nat) {ss:List (List UInt8)} {us:List Nat} {d e v f:D} {vs:List Vr} {fs:List Fd} (hd:Sl 1 strC ss d) (he:Sl 1 u8C us e) (hu:Bytes8 us) (hs:Small ss) (hC:CHK ss us=e2 0 0) (hE:EnvOk vs fs v f):cl (n+405) 23 [.agg [d,e,v,f]]=some (.int .i64 (envE us vs fs),true):=by
 rw [cl_run (A:=A23) rfl (n+405) _ rfl,show A23.body=B23 from rfl,B23_eq]
 have h54:=c54 (n+401) hd he hu hs
 rw [hC] at h54
 have htk:takeAt [d,e,v,f] 0 (some 2)=some (.agg [d,e]):=rfl
 unfold envE
 by_cases h32:32<vs.length
 ·have k1:decide ((32:Int)<vs.length)=true:=by rw [decide_eq_true_eq]; omega
  rw [if_pos (.inl h32)]
  simp only [start_eq,argTm,exq,ex_ls1,exb,Ab.abq,↓reduceIte,Nat.reduceEqDiff,Nat.reduceAdd,Nat.reduceLeDiff,reduceCtorEq,hd.nag,he.nag,hE.v.nag,hE.f.nag,hE.v.len,hE.f.len,k1,htk,fn_pure (f:=54) rfl,ex_call,hd.fz,he.fz,h54,namesD_e2,Int.reduceEq,nb,A23]
  rfl
 have k1:decide ((32:Int)<vs.length)=false:=by rw [decide_eq_false_iff_not]; omega
 by_cases h16:16<fs.length
 ·have k2:decide ((16:Int)<fs.length)=true:=by rw [decide_eq_true_eq]; omega
  rw [if_pos (.inr h16)]
  simp only [start_eq,argTm,exq,ex_ls1,exb,Ab.abq,↓reduceIte,Nat.reduceEqDiff,Nat.reduceAdd,Nat.reduceLeDiff,reduceCtorEq,hd.nag,he.nag,hE.v.nag,hE.f.nag,hE.v.len,hE.f.len,k1,k2,htk,fn_pure (f:=54) rfl,ex_call,hd.fz,he.fz,h54,namesD_e2,Int.reduceEq,nb,A23]
  rfl
 have k2:decide ((16:Int)<fs.length)=false:=by rw [decide_eq_false_iff_not]; omega
 rw [if_neg (by omega)]
 simp only [start_eq,argTm,exq,ex_ls1,exb,Ab.abq,↓reduceIte,Nat.reduceEqDiff,Nat.reduceAdd,Nat.reduceLeDiff,reduceCtorEq,hd.nag,he.nag,hE.v.nag,hE.f.nag,hE.v.len,hE.f.len,k1,k2,htk,fn_pure (f:=54) rfl,ex_call,hd.fz,he.fz,h54,namesD_e2,Int.reduceEq,nb]
 refine U23_ok n hd he hu hC hE (by omega) (by omega) ⟨by simp [ex_val],by decide,fun m hm => ?_,by simp only [ex_val]; exact .inl ⟨rfl,rfl⟩,by simp [ex_val]⟩
 simp only [ex_val,sget_st0]; rw [if_neg (by omega)]
end
end Zv
namespace Zv
open Go
noncomputable section
def ty0:List D:=[.int .i64 0,.int .i64 0,.int .i64 0,.int .i64 0,.int .i64 0]
def ofP (vs:List Vr) (s:List UInt8) (i:Nat):Option D:=match vs[i]? with|some x=>if x.name=s then some (.tup [.agg (tyC x.ty),.int .i64 0]) else none|none=>none
def ofD (vs:List Vr) (s:List UInt8):D:=scan (ofP vs s) (.tup [.agg ty0,.int .i64 24]) vs.length 0
theorem var_ty {vs:List Vr} {v:D} (hv:Sl 6 vrC vs v) {i:Nat} (hlt:i<vs.length):takeAt (vs.map vrC).flatten (i*6+1) (some 5)=some (.agg (tyC vs[i].ty)):=by
 have hb:=IsSl.ble hv (i:=i) (by rw [List.length_map]; exact hlt)
 have h2:=IsSl.tk hv (i:=i) (by rw [List.length_map]; exact hlt)
 rw [List.getElem_map] at h2
 simp only [takeAt]
 rw [Nat.ble_eq_true_of_le (by omega),cond_true]
 have:((vs.map vrC).flatten.drop (i*6+1)).take 5=(((vs.map vrC).flatten.drop (i*6)).take 6).drop 1:=by rw [List.drop_take,List.drop_drop]
 rw [this,h2]; rfl
theorem c58 (n:Nat) {vs:List Vr} {d e v f:D} (hv:Sl 6 vrC vs v) (hl:vs.length<9223372036854775807) (hd:isAg d=false) (he:isAg e=false) (hf:isAg f=false) (s:List UInt8):cl n 58 [.agg [d,e,v,f],.str s]=some (ofD vs s,true):=by
 rw [cl_run (A:=A58) rfl n _ rfl,show A58.body=B58 from rfl]
 simp only [B58,Ab.abq]
 simp only [start_eq,argTm,exq,ex_ls1,exb,Ab.abq,↓reduceIte,Nat.reduceEqDiff,Nat.reduceAdd,Nat.reduceLeDiff,reduceCtorEq,hd,he,hv.nag,hf]
 generalize hz:zloop KK _ _=rl
 refine zfor rl hz vs.length (KK_lt hl) hl (fun i t st c=>sget st 0=some (.fix 30 [d,e,v,f])∧sget st 1=some (.fix 37 ty0)∧tget t 1 = .str s∧tget t 2 = .ptr 0 0∧tget t 4 = .ptr 1 0∧∀ j,j<i→ofP vs s j=none) (by simp [ex_val]) (by simp [ex_val,ty0]) ?_
 rintro i t st c hi ⟨s0,s1,q1,q2,q4,hn⟩ q6
 by_cases hlt:i<vs.length
 ·have g0:=hv.cell hlt (show 0<6 by omega)
  have htk:=var_ty hv hlt
  simp only [tyC] at htk
  by_cases e:vs[i].name=s
  ·have hp:ofP vs s i=some (.tup [.agg (tyC vs[i].ty),.int .i64 0]):=by rw [ofP,List.getElem?_eq_getElem hlt]; exact if_pos e
   unfold ofD
   simp only [start_eq,argTm,exq,ex_ls1,exb,Ab.abq,↓reduceIte,Nat.reduceEqDiff,Nat.reduceAdd,Nat.reduceLeDiff,reduceCtorEq,s0,s1,ty0,q1,q2,q4,q6,hv.len,lt_dec hlt,hv.ia hlt,vrC,g0,decide_eq_true e,htk,nb,A58]
   rw [scan_at hlt hp hn]; rfl
  ·have hp:ofP vs s i=none:=by rw [ofP,List.getElem?_eq_getElem hlt]; exact if_neg e
   simp only [start_eq,argTm,exq,ex_ls1,exb,Ab.abq,↓reduceIte,Nat.reduceEqDiff,Nat.reduceAdd,Nat.reduceLeDiff,reduceCtorEq,s0,s1,ty0,q1,q2,q4,q6,hv.len,lt_dec hlt,hv.ia hlt,vrC,g0,decide_eq_false e,nb]
   exact ⟨hlt,trivial,trivial,trivial,trivial,trivial,trivial,trivial,trivial,none_step hn hp⟩
 ·have e1:i=vs.length:=by omega
  subst e1
  unfold ofD
  rw [scan_end hn]
  simp only [start_eq,argTm,exq,ex_ls1,exb,Ab.abq,↓reduceIte,Nat.reduceEqDiff,Nat.reduceAdd,Nat.reduceLeDiff,reduceCtorEq,s0,s1,ty0,q1,q2,q4,q6,hv.len,ge_dec (Nat.le_refl vs.length),A58]
  rfl
theorem f105 (n j:Nat) (x:Vr) {s:List UInt8} {S:St} {c:Nat} (s0:sget S 0=some (.fix 10 [.str s])) (hc:1≤c):fn n (j+1) (.fn 105) [.agg (vrC x),.ptr 0 0] S c = .ok (.ret (.bool (decide (x.name=s)))) (sadd S c (.fix 55 (vrC x))) (c+1):=by
 rw [fn_in (f:=105) (A:=A105) rfl rfl rfl rfl n j _ _ _ rfl,show A105.body=B105 from rfl]
 unfold B105 vrC tyC
 have f0:(0=c)=False:=eq_false (by omega)
 simp only [start_eq,argTm,exq,ex_ls1,exb,Ab.abq,↓reduceIte,Nat.reduceEqDiff,Nat.reduceAdd,Nat.reduceLeDiff,reduceCtorEq,s0,f0,nb,A105]
def ixP (vs:List Vr) (s:List UInt8) (i:Nat):Option Int:=match vs[i]? with|some x=>if x.name=s then some (i:Int) else none|none=>none
theorem f104 (n j:Nat) {vs:List Vr} {v:D} (hv:Sl 6 vrC vs v) (hl:vs.length<9223372036854775807) {s:List UInt8} {S:St} {c:Nat} (s0:sget S 0=some (.fix 10 [.str s])) (hc:1≤c) :
  ∃ s' c',fn n (j+2) (.fn 104) [v,.fn (.func 105) [] [.ptr 0 0]] S c = .ok (.ret (.int .i64 (scan (ixP vs s) (-1) vs.length 0))) s' c'∧c≤c'∧∀ m,m<c→sget s' m=sget S m:=by
 rw [fn_in (f:=104) (A:=A104) rfl rfl rfl rfl n (j+1) _ _ _ rfl,show A104.body=B104 from rfl]
 simp only [B104,Ab.abq]
 simp only [start_eq,argTm,exq,ex_ls1,exb,Ab.abq,↓reduceIte,Nat.reduceEqDiff,Nat.reduceAdd,Nat.reduceLeDiff,reduceCtorEq,hv.len]
 generalize hz:zloop KK _ _=rl
 refine zrange rl hz vs.length (KK_lt hl) hl (fun i t s' c'=>(c≤c'∧∀ m,m<c→sget s' m=sget S m)∧tget t 0=v∧tget t 1 = .fn (.func 105) [] [.ptr 0 0]∧∀ k,k<i→ixP vs s k=none) (by decide) (by simp [ex_val]) (by simp [ex_val]) ⟨⟨Nat.le_refl _,fun _ _=>rfl⟩,by simp [ex_val],by simp [ex_val],nofun⟩ ?_ ?_
 ·rintro i t s' c' hi ⟨⟨hK,hk⟩,q0,q1,hn⟩ hti htn
  have hrow:=hv.row hi
  have h105:=f105 n j vs[i] (S:=s') (c:=c') (by rw [hk 0 (by omega)]; exact s0) (by omega)
  have hK':∀ b,c≤c'+1∧∀ m,m<c→sget (sadd s' c' b) m=sget S m:=fun b=>⟨by omega,fun m hm=>by rw [sget_sadd,if_neg (by omega)]; exact hk m hm⟩
  by_cases e:vs[i].name=s
  ·have hp:ixP vs s i=some (i:Int):=by rw [ixP,List.getElem?_eq_getElem hi]; exact if_pos e
   simp only [start_eq,argTm,exq,ex_ls1,exb,Ab.abq,↓reduceIte,Nat.reduceEqDiff,Nat.reduceAdd,Nat.reduceLeDiff,reduceCtorEq,q0,q1,hti,htn,hv.ia hi,hrow,ex_dfr,List.nil_append,List.append_nil,List.cons_append,h105,decide_eq_true e,nb,A104]
   rw [scan_at hi hp hn]
   exact ⟨_,_,rfl,hK' _⟩
  ·have hp:ixP vs s i=none:=by rw [ixP,List.getElem?_eq_getElem hi]; exact if_neg e
   simp only [start_eq,argTm,exq,ex_ls1,exb,Ab.abq,↓reduceIte,Nat.reduceEqDiff,Nat.reduceAdd,Nat.reduceLeDiff,reduceCtorEq,q0,q1,hti,htn,hv.ia hi,hrow,ex_dfr,List.nil_append,List.append_nil,List.cons_append,h105,decide_eq_false e,nb]
   exact ⟨trivial,trivial,trivial,.inr (.inr trivial),nofun,nofun,⟨Nat.le_succ_of_le hK,fun m hm=>by rw [if_neg (by omega)]; exact hk m hm⟩,trivial,trivial,none_step hn hp⟩
 ·rintro t s' c' ⟨hK,q0,q1,hn⟩ hti htn
  simp only [start_eq,argTm,exq,ex_ls1,exb,Ab.abq,↓reduceIte,Nat.reduceEqDiff,Nat.reduceAdd,Nat.reduceLeDiff,reduceCtorEq,q0,q1,hti,htn,A104]
  rw [scan_end hn]
  exact ⟨_,_,rfl,hK⟩
theorem c57 (n:Nat) {vs:List Vr} {v:D} (hv:Sl 6 vrC vs v) (hl:vs.length<9223372036854775807) (s:List UInt8):cl n 57 [v,.str s]=some (ofD vs s,true):=by
 rw [cl_run (A:=A57) rfl n _ rfl,show A57.body=B57 from rfl]
 simp only [B57,Ab.abq]
 obtain ⟨s',c',h104,hc,hk⟩:=f104 n 4094 hv hl (s:=s) (S:=sadd (sadd st0 0 (.fix 10 [.str s])) 1 (.fix 37 ty0)) (c:=2) (by simp [ex_val]) (by decide)
 have k1:sget s' 1=some (.fix 37 ty0):=by rw [hk 1 (by decide)]; simp [ex_val]
 unfold ty0 at *
 rcases scan_cases (ixP vs s) (-1) vs.length 0 with ⟨h1,h2⟩|⟨m,r,_,hm,h3,h4,h5⟩
 ·rw [h2] at h104
  simp only [start_eq,argTm,exq,ex_ls1,exb,Ab.abq,↓reduceIte,Nat.reduceEqDiff,Nat.reduceAdd,Nat.reduceLeDiff,reduceCtorEq,List.map_cons,List.map_nil,h104,k1,Int.reduceLT,nb,A57]
  have:ofD vs s = .tup [.agg ty0,.int .i64 24]:=scan_end fun j hj=>by
   have:=h1 j (by omega) (by omega)
   rw [ixP,List.getElem?_eq_getElem hj] at this
   rw [ofP,List.getElem?_eq_getElem hj]
   simp only at this ⊢
   split at this
   ·cases this
   ·rw [if_neg (by assumption)]
  rw [this]; rfl
 ·have hm':m<vs.length:=by omega
  rw [h5] at h104
  rw [ixP,List.getElem?_eq_getElem hm'] at h3
  simp only at h3
  split at h3
  case isFalse=>cases h3
  rename_i hnm
  cases h3
  have htk:=var_ty hv hm'
  simp only [tyC] at htk
  have hlt:decide (((m:Nat):Int)<0)=false:=by rw [decide_eq_false_iff_not]; omega
  simp only [start_eq,argTm,exq,ex_ls1,exb,Ab.abq,↓reduceIte,Nat.reduceEqDiff,Nat.reduceAdd,Nat.reduceLeDiff,reduceCtorEq,List.map_cons,List.map_nil,h104,k1,hlt,hv.ia hm',htk,nb,A57]
  have:ofD vs s = .tup [.agg (tyC vs[m].ty),.int .i64 0]:=scan_at hm' (by rw [ofP,List.getElem?_eq_getElem hm']; exact if_pos hnm) fun j hj=>by
   have hj':j<vs.length:=by omega
   have:=h4 j (by omega) hj
   rw [ixP,List.getElem?_eq_getElem hj'] at this
   rw [ofP,List.getElem?_eq_getElem hj']
   simp only at this ⊢
   split at this
   ·cases this
   ·rw [if_neg (by assumption)]
  rw [this]; rfl
def fndD (er:Int) (vs:List Vr) (s:List UInt8):D:=if er=0 then ofD vs s else .tup [.agg ty0,.int .i64 er]
theorem of_cases (vs:List Vr) (s:List UInt8):∃ a b c d e x,ofD vs s = .tup [.agg [.int .i64 a,.int .i64 b,.int .i64 c,.int .i64 d,.int .i64 e],.int .i64 x]:=by
 rcases scan_cases (ofP vs s) (.tup [.agg ty0,.int .i64 24]) vs.length 0 with ⟨_,h2⟩|⟨m,r,_,hm,h3,_,h5⟩
 ·exact ⟨0,0,0,0,0,24,h2⟩
 ·have hm':m<vs.length:=by omega
  rw [ofP,List.getElem?_eq_getElem hm'] at h3
  simp only at h3
  split at h3
  ·cases h3; exact ⟨_,_,_,_,_,_,h5⟩
  ·cases h3
theorem c20 (n:Nat) {d e v f:D} {vs:List Vr} (hd:isAg d=false) (he:isAg e=false) (hf:isAg f=false) (hdf:∀ k s,frz false (k+1) s d=some d) (hef:∀ k s,frz false (k+1) s e=some e) (hff:∀ k s,frz false (k+1) s f=some f) (hv:Sl 6 vrC vs v) (hl:vs.length<9223372036854775807) {er:Int} (h22:cl (n+1) 22 [.agg [d,e,v,f]]=some (.int .i64 er,true)) (s:List UInt8) :
  cl (n+2) 20 [.agg [d,e,v,f],.str s]=some (fndD er vs s,true):=by
 rw [cl_run (A:=A20) rfl (n+2) _ rfl,show A20.body=B20 from rfl]
 unfold B20 fndD
 have htk:takeAt [d,e,v,f] 0 (some 4)=some (.agg [d,e,v,f]):=rfl
 have htk5:∀ a b c d e:Int,takeAt [.int .i64 a,.int .i64 b,.int .i64 c,.int .i64 d,.int .i64 e] 0 (some 5)=some (.agg [.int .i64 a,.int .i64 b,.int .i64 c,.int .i64 d,.int .i64 e]):=fun _ _ _ _ _=>rfl
 by_cases h:er=0
 ·subst h
  obtain ⟨a,b,c,dd,ee,x,ho⟩:=of_cases vs s
  have h57:=c57 (n+1) hv hl s
  rw [ho] at h57 ⊢
  rw [if_pos rfl]
  simp only [start_eq,argTm,exq,ex_ls1,exb,Ab.abq,↓reduceIte,Nat.reduceEqDiff,Nat.reduceAdd,Nat.reduceLeDiff,reduceCtorEq,hd,he,hv.nag,hf,htk,fn_pure (f:=22) rfl,fn_pure (f:=57) rfl,ex_call,hdf,hef,hv.fz,hff,h22,h57,nb,A20]
  rfl
 ·rw [if_neg h]
  simp only [start_eq,argTm,exq,ex_ls1,exb,Ab.abq,↓reduceIte,Nat.reduceEqDiff,Nat.reduceAdd,Nat.reduceLeDiff,reduceCtorEq,hd,he,hv.nag,hf,htk,htk5,fn_pure (f:=22) rfl,ex_call,hdf,hef,hv.fz,hff,h22,decide_eq_false h,nb,A20]
  rfl
theorem c21 (n:Nat) {d e v f:D} {vs:List Vr} (hd:isAg d=false) (he:isAg e=false) (hf:isAg f=false) (hdf:∀ k s,frz false (k+1) s d=some d) (hef:∀ k s,frz false (k+1) s e=some e) (hff:∀ k s,frz false (k+1) s f=some f) (hv:Sl 6 vrC vs v) (hl:vs.length<9223372036854775807) {er:Int} (h23:cl (n+1) 23 [.agg [d,e,v,f]]=some (.int .i64 er,true)) (s:List UInt8) :
  cl (n+2) 21 [.agg [d,e,v,f],.str s]=some (fndD er vs s,true):=by
 rw [cl_run (A:=A21) rfl (n+2) _ rfl,show A21.body=B21 from rfl]
 unfold B21 fndD
 have htk:takeAt [d,e,v,f] 0 (some 4)=some (.agg [d,e,v,f]):=rfl
 by_cases h:er=0
 ·subst h
  obtain ⟨a,b,c,dd,ee,x,ho⟩:=of_cases vs s
  have h58:=c58 (n+1) hv hl hd he hf s
  rw [ho] at h58 ⊢
  rw [if_pos rfl]
  simp only [start_eq,argTm,exq,ex_ls1,exb,Ab.abq,↓reduceIte,Nat.reduceEqDiff,Nat.reduceAdd,Nat.reduceLeDiff,reduceCtorEq,hd,he,hv.nag,hf,htk,fn_pure (f:=23) rfl,fn_pure (f:=58) rfl,ex_call,hdf,hef,hv.fz,hff,h23,h58,nb,A21]
  rfl
 ·rw [if_neg h]
  simp only [start_eq,argTm,exq,ex_ls1,exb,Ab.abq,↓reduceIte,Nat.reduceEqDiff,Nat.reduceAdd,Nat.reduceLeDiff,reduceCtorEq,hd,he,hv.nag,hf,htk,fn_pure (f:=23) rfl,ex_call,hdf,hef,hv.fz,hff,h23,decide_eq_false h,nb,A21]
  rfl
end
end Zv
namespace Zv
open Go
noncomputable section
def NotLong (l:List Nd):Prop:=l.length≤405∧(l.length≤400→∀ x∈l,x.name.length≤500∧x.text.length≤500)
theorem c11 (n:Nat) {l:List Nd} {d:D} (hd:Sl 7 nodeC l d):∃ b,cl n 11 [d]=some (.bool b,true)∧(b=false→NotLong l):=by
 rw [cl_run (A:=A11) rfl n _ rfl,show A11.body=B11 from rfl]
 simp only [B11,Ab.abq]
 simp only [start_eq,argTm,exq,ex_ls1,exb,Ab.abq,↓reduceIte,Nat.reduceEqDiff,Nat.reduceAdd,Nat.reduceLeDiff,reduceCtorEq]
 generalize hz:zloop KK _ _=rl
 have hN:min l.length 80≤80:=Nat.min_le_right _ _
 refine zfor rl hz (min l.length 80) (KK_lt (by omega)) (by omega) (fun i t s c=>tget t 0=d∧∀ j,j<i→∀ h:j<l.length,l[j].name.length≤500∧l[j].text.length≤500) (by simp [ex_val]) ⟨by simp [ex_val],nofun⟩ ?_
 rintro i t s c hi ⟨q0,hn⟩ q3
 by_cases hlt:i<l.length
 ·by_cases h80:i<80
  ·have k1:decide ((i:Int)<80)=true:=by rw [decide_eq_true_eq]; omega
   have g3:=hd.cell hlt (show 3<7 by omega)
   have g4:=hd.cell hlt (show 4<7 by omega)
   by_cases e1:500<l[i].name.length
   ·have k2:decide ((500:Int)<(l[i].name.length:Nat))=true:=by rw [decide_eq_true_eq]; omega
    simp only [start_eq,argTm,exq,ex_ls1,exb,Ab.abq,↓reduceIte,Nat.reduceEqDiff,Nat.reduceAdd,Nat.reduceLeDiff,reduceCtorEq,q0,q3,hd.len,lt_dec hlt,k1,hd.ia hlt,g3,g4,nodeC,k2,nb,A11]
    exact ⟨true,rfl,nofun⟩
   ·have k2:decide ((500:Int)<(l[i].name.length:Nat))=false:=by rw [decide_eq_false_iff_not]; omega
    by_cases e2:500<l[i].text.length
    ·have k3:decide ((500:Int)<(l[i].text.length:Nat))=true:=by rw [decide_eq_true_eq]; omega
     simp only [start_eq,argTm,exq,ex_ls1,exb,Ab.abq,↓reduceIte,Nat.reduceEqDiff,Nat.reduceAdd,Nat.reduceLeDiff,reduceCtorEq,q0,q3,hd.len,lt_dec hlt,k1,hd.ia hlt,g3,g4,nodeC,k2,k3,nb,A11]
     exact ⟨true,rfl,nofun⟩
    ·have k3:decide ((500:Int)<(l[i].text.length:Nat))=false:=by rw [decide_eq_false_iff_not]; omega
     simp only [start_eq,argTm,exq,ex_ls1,exb,Ab.abq,↓reduceIte,Nat.reduceEqDiff,Nat.reduceAdd,Nat.reduceLeDiff,reduceCtorEq,q0,q3,hd.len,lt_dec hlt,k1,hd.ia hlt,g3,g4,nodeC,k2,k3,nb]
     refine ⟨by omega,trivial,trivial,trivial,trivial,fun j hj h => ?_⟩
     rcases Nat.lt_succ_iff_lt_or_eq.1 hj with h'|rfl
     ·exact hn j h' h
     ·exact ⟨by omega,by omega⟩
  ·have k1:decide ((i:Int)<80)=false:=by rw [decide_eq_false_iff_not]; omega
   have k60:decide ((60:Int)<(l.length:Nat))=true:=by rw [decide_eq_true_eq]; omega
   by_cases e4:l.length≤400
   ·have k4:decide (((l.length:Nat):Int)≤400)=true:=by rw [decide_eq_true_eq]; omega
    simp only [start_eq,argTm,exq,ex_ls1,exb,Ab.abq,↓reduceIte,Nat.reduceEqDiff,Nat.reduceAdd,Nat.reduceLeDiff,reduceCtorEq,q0,q3,hd.len,lt_dec hlt,k1,k60,k4,nb,A11]
    exact ⟨true,rfl,nofun⟩
   ·have k4:decide (((l.length:Nat):Int)≤400)=false:=by rw [decide_eq_false_iff_not]; omega
    simp only [start_eq,argTm,exq,ex_ls1,exb,Ab.abq,↓reduceIte,Nat.reduceEqDiff,Nat.reduceAdd,Nat.reduceLeDiff,reduceCtorEq,q0,q3,hd.len,lt_dec hlt,k1,k60,k4,nb,A11]
    exact ⟨decide ((405:Int)<(l.length:Nat)),rfl,fun h=>⟨by rw [decide_eq_false_iff_not] at h; omega,fun h'=>absurd h' e4⟩⟩
 ·have e1:i=l.length:=by omega
  subst e1
  have h60:l.length≤80:=by omega
  have hall:∀ x∈l,x.name.length≤500∧x.text.length≤500:=fun x hx=>by
   obtain ⟨j,hj,rfl⟩:=List.getElem_of_mem hx
   exact hn j hj hj
  have k4:decide (((l.length:Nat):Int)≤400)=true:=by rw [decide_eq_true_eq]; omega
  have k5:decide ((405:Int)<(l.length:Nat))=false:=by rw [decide_eq_false_iff_not]; omega
  by_cases e:60<l.length
  ·have k60:decide ((60:Int)<(l.length:Nat))=true:=by rw [decide_eq_true_eq]; omega
   simp only [start_eq,argTm,exq,ex_ls1,exb,Ab.abq,↓reduceIte,Nat.reduceEqDiff,Nat.reduceAdd,Nat.reduceLeDiff,reduceCtorEq,q0,q3,hd.len,ge_dec (Nat.le_refl l.length),k60,k4,k5,nb,A11]
   exact ⟨true,rfl,nofun⟩
  ·have k60:decide ((60:Int)<(l.length:Nat))=false:=by rw [decide_eq_false_iff_not]; omega
   simp only [start_eq,argTm,exq,ex_ls1,exb,Ab.abq,↓reduceIte,Nat.reduceEqDiff,Nat.reduceAdd,Nat.reduceLeDiff,reduceCtorEq,q0,q3,hd.len,ge_dec (Nat.le_refl l.length),k60,k4,k5,nb,A11]
   exact ⟨false,rfl,fun _=>⟨by omega,fun _=>hall⟩⟩
end
end Zv
namespace Zv
open Go Ab
noncomputable section
theorem latD_cases (n:Nat) (u:Nat→Nat):latD n u=e2 0 0∨∃ a:Int,latD n u=e2 a 4:=by
 unfold latD
 rcases scan_cases (latP n u) (e2 0 0) n 0 with ⟨_,h⟩|⟨m,r,_,h2,h3,_,h5⟩
 ·exact .inl h
 ·rw [h5]; unfold latP at h3
  cases hb:latB n u m <;> rw [hb] at h3
  ·cases h3; exact .inr ⟨m,rfl⟩
  ·cases h3
theorem CHK_cases (ss:List (List UInt8)) (us:List Nat):(CHK ss us=e2 0 0∧us.length=ss.length∧1≤ss.length∧ss.length≤8∧(∀ a,a<ss.length→ordB ss.length (uM us) a=true))∨∃ a er:Int,CHK ss us=e2 a er∧er≠0:=by
 unfold CHK
 rcases namesD_cases ss with ⟨h1,h2⟩|⟨h1,a,er,h2,h3⟩
 ·rw [if_pos h1]
  have hn:=namesB_iff.1 h1
  by_cases hl:us.length=ss.length
  ·rw [if_pos hl]
   unfold ordD
   rcases scan_cases (ordP ss.length (uM us)) (latD ss.length (uM us)) ss.length 0 with ⟨hb,h⟩|⟨m,r,_,h2,h3,_,h5⟩
   ·rw [h]
    rcases latD_cases ss.length (uM us) with h'|⟨a,h'⟩
    ·refine .inl ⟨h',hl,hn.1.1,hn.1.2,fun a ha => ?_⟩
     have:=hb a (by omega) (by omega)
     unfold ordP at this
     cases ho:ordB ss.length (uM us) a
     ·rw [ho] at this; cases this
     ·rfl
    ·exact .inr ⟨a,4,h',by decide⟩
   ·rw [h5]; unfold ordP at h3
    cases hb:ordB ss.length (uM us) m <;> rw [hb] at h3
    ·cases h3; exact .inr ⟨_,_,rfl,by decide⟩
    ·cases h3
  ·rw [if_neg hl]; exact .inr ⟨_,_,rfl,by decide⟩
 ·rw [if_neg (by rw [h1]; decide)]; exact .inr ⟨a,er,h2,h3⟩
structure FdIn (f:Fd):Prop where
 p:Sl 1 strC f.ps f.pd
 b:Sl 7 nodeC f.body f.bd
structure FdSm (f:Fd):Prop where
 nm:f.name.length≤100
 pl:f.ps.length≤4
 b:NotLong f.body
 pn:∀ s∈f.ps,s.length≤100
def NotLarge (ss:List (List UInt8)) (us:List Nat) (vs:List Vr) (fs:List Fd):Prop:=LargeB ss us=false∧vs.length≤40∧fs.length≤20∧(∀ x∈vs,x.name.length≤100)∧∀ x∈fs,FdSm x
def Out10 (n:Nat) (ss:List (List UInt8)) (us:List Nat) (vs:List Vr) (fs:List Fd) (r:R):Prop:=∃ b,pout (zbody (dfn n MM) A10 r)=some (.bool b,true)∧(b=false→NotLarge ss us vs fs)
def Z10:AC:=(s (r [f 71 0 1,u 72 (.ld (some 2) (.t 71)),u 73 (.call 28 [(.t 72)]),m 74 73,n 75 74 (.fa 2 (.t 1)),n 76 74 (.ld none (.t 75)),n 77 74 (.len false (.t 76)),n 78 74 (.bin .gtr (.t 77) (.c (i 40))),u 79 (.pick (.t 74) (.c (.bool true)) (.t 78)),m 80 79,n 81 80 (.fa 3 (.t 1)),n 82 80 (.ld none (.t 81)),n 83 80 (.len false (.t 82)),n 84 80 (.bin .gtr (.t 83) (.c (i 20))),u 85 (.pick (.t 80) (.c (.bool true)) (.t 84)),m 2 85]) .ret)
def W10:AC:=(s (s (r [c 4 (i 0)]) (.block 4 (.loop (s (s (r [m 26 4,f 27 3 1,l 28 27,u 29 (.len false (.t 28)),b 30 .lss 26 29,m 31 30,my 32 4 31,y 33 31 (.bin .lss (.t 32) (.c (i 30))),u 34 (.pick (.t 31) (.t 33) (.c (.bool false)))]) (.cond (.t 34) .skip (.exit 4))) (s (.block 6 (s (r [f 37 3 1,l 38 37,m 39 4,u 40 (.iaS 3 (.t 38) (.t 39)),u 41 (.ld (some 3) (.t 40)),u 5 (.new 79 (.c (.agg [(.str []),.nils,.nils]))),w (.st 3 (.t 5) (.t 41))]) (s (s (r [f 42 0 5,l 43 42,u 44 (.len true (.t 43)),d 45 .gtr 44 (i 100),m 46 45,n 47 46 (.fa 1 (.t 5)),n 48 46 (.ld none (.t 47)),n 49 46 (.len false (.t 48)),n 50 46 (.bin .gtr (.t 49) (.c (i 4))),u 51 (.pick (.t 46) (.c (.bool true)) (.t 50)),m 52 51,n 53 52 (.fa 2 (.t 5)),n 54 52 (.ld none (.t 53)),n 55 52 (.call 11 [(.t 54)]),u 56 (.pick (.t 52) (.c (.bool true)) (.t 55))]) (.cond (.t 56) (s (r [c 2 (.bool true)]) .ret) .skip)) (s (r [c 6 (i 0)]) (.block 8 (.loop (s (s (r [m 57 6,f 58 1 5,l 59 58,u 60 (.len false (.t 59)),b 61 .lss 57 60]) (.cond (.t 61) .skip (.exit 8))) (s (.block 10 (s (r [f 64 1 5,l 65 64,m 66 6,u 67 (.iaS 1 (.t 65) (.t 66)),l 68 67,u 69 (.len true (.t 68)),d 70 .gtr 69 (i 100)]) (.cond (.t 70) (s (r [c 2 (.bool true)]) .ret) .skip))) (r [m 62 6,d 63 .add 62 (i 1),m 6 63]))))))))) (r [m 35 4,d 36 .add 35 (i 1),m 4 36])))))) Z10)
theorem B10_eq:B10=(s (r [u 1 (.new 30 (.t 0)),c 2 (.bool false)]) (s (s (r [c 3 (i 0)]) (.block 0 (.loop (s (s (r [m 7 3,f 8 2 1,l 9 8,u 10 (.len false (.t 9)),b 11 .lss 7 10,m 12 11,my 13 3 12,y 14 12 (.bin .lss (.t 13) (.c (i 50))),u 15 (.pick (.t 12) (.t 14) (.c (.bool false)))]) (.cond (.t 15) .skip (.exit 0))) (s (.block 2 (s (r [f 18 2 1,l 19 18,m 20 3,u 21 (.iaS 6 (.t 19) (.t 20)),f 22 0 21,l 23 22,u 24 (.len true (.t 23)),d 25 .gtr 24 (i 100)]) (.cond (.t 25) (s (r [c 2 (.bool true)]) .ret) .skip))) (r [m 16 3,d 17 .add 16 (i 1),m 3 17])))))) W10)):=rfl
theorem out10 {n:Nat} {ss:List (List UInt8)} {us:List Nat} {vs:List Vr} {fs:List Fd} {t:Tm} {s:St} {c:Nat} (h:tget t 2 = .bool true):Out10 n ss us vs fs (.ok .ret ⟨t,s,c,[],none⟩):=
 ⟨true,by simp only [start_eq,argTm,exq,ex_ls1,exb,Ab.abq,↓reduceIte,Nat.reduceEqDiff,Nat.reduceAdd,Nat.reduceLeDiff,reduceCtorEq,A10,h]; rfl,nofun⟩
theorem Z10_ok (n:Nat) {ss:List (List UInt8)} {us:List Nat} {d e v f:D} {vs:List Vr} {fs:List Fd} (hd:Sl 1 strC ss d) (he:Sl 1 u8C us e) (hv:Sl 6 vrC vs v) (hf:Sl 3 fdC fs f) {t:Tm} {s:St} {c:Nat} (s0:sget s 0=some (.fix 30 [d,e,v,f])) (q1:tget t 1 = .ptr 0 0)
  (hvn:vs.length≤50→∀ x∈vs,x.name.length≤100) (hfn:fs.length≤30→∀ x∈fs,FdSm x):Out10 (n+1) ss us vs fs (zC Z10 (cxn (n+1)) (fn (n+1) 4096) KK ⟨t,s,c,[],none⟩):=by
 simp only [Z10,Ab.abq]
 have h28:=c28 n hd he
 have htk:takeAt [d,e,v,f] 0 (some 2)=some (.agg [d,e]):=rfl
 cases hL:LargeB ss us
 ·rw [hL] at h28
  by_cases h40:40<vs.length
  ·have k1:decide ((40:Int)<(vs.length:Nat))=true:=by rw [decide_eq_true_eq]; omega
   simp only [start_eq,argTm,exq,ex_ls1,exb,Ab.abq,↓reduceIte,Nat.reduceEqDiff,Nat.reduceAdd,Nat.reduceLeDiff,reduceCtorEq,s0,q1,htk,fn_pure (f:=28) rfl,ex_call,hd.fz,he.fz,h28,hv.len,k1,nb]
   exact out10 (by simp [ex_val])
  ·have k1:decide ((40:Int)<(vs.length:Nat))=false:=by rw [decide_eq_false_iff_not]; omega
   by_cases h20:20<fs.length
   ·have k2:decide ((20:Int)<(fs.length:Nat))=true:=by rw [decide_eq_true_eq]; omega
    simp only [start_eq,argTm,exq,ex_ls1,exb,Ab.abq,↓reduceIte,Nat.reduceEqDiff,Nat.reduceAdd,Nat.reduceLeDiff,reduceCtorEq,s0,q1,htk,fn_pure (f:=28) rfl,ex_call,hd.fz,he.fz,h28,hv.len,hf.len,k1,k2,nb]
    exact out10 (by simp [ex_val])
   ·have k2:decide ((20:Int)<(fs.length:Nat))=false:=by rw [decide_eq_false_iff_not]; omega
    simp only [start_eq,argTm,exq,ex_ls1,exb,Ab.abq,↓reduceIte,Nat.reduceEqDiff,Nat.reduceAdd,Nat.reduceLeDiff,reduceCtorEq,s0,q1,htk,fn_pure (f:=28) rfl,ex_call,hd.fz,he.fz,h28,hv.len,hf.len,k1,k2,nb]
    exact ⟨false,by simp only [start_eq,argTm,exq,ex_ls1,exb,Ab.abq,↓reduceIte,Nat.reduceEqDiff,Nat.reduceAdd,Nat.reduceLeDiff,reduceCtorEq,A10]; rfl,fun _=>⟨hL,by omega,by omega,hvn (by omega),hfn (by omega)⟩⟩
 ·rw [hL] at h28
  simp only [start_eq,argTm,exq,ex_ls1,exb,Ab.abq,↓reduceIte,Nat.reduceEqDiff,Nat.reduceAdd,Nat.reduceLeDiff,reduceCtorEq,s0,q1,htk,fn_pure (f:=28) rfl,ex_call,hd.fz,he.fz,h28,nb]
  exact out10 (by simp [ex_val])
theorem W10_ok (n:Nat) {ss:List (List UInt8)} {us:List Nat} {d e v f:D} {vs:List Vr} {fs:List Fd} (hd:Sl 1 strC ss d) (he:Sl 1 u8C us e) (hv:Sl 6 vrC vs v) (hf:Sl 3 fdC fs f) (hfs:∀ x∈fs,FdIn x) {t:Tm} {s:St} {c:Nat} (s0:sget s 0=some (.fix 30 [d,e,v,f])) (hc:1≤c) (q1:tget t 1 = .ptr 0 0)
  (hvn:vs.length≤50→∀ x∈vs,x.name.length≤100):Out10 (n+1) ss us vs fs (zC W10 (cxn (n+1)) (fn (n+1) 4096) KK ⟨t,s,c,[],none⟩):=by
 simp only [W10,Ab.abq]
 simp only [start_eq,argTm,exq,ex_ls1,exb,Ab.abq,↓reduceIte,Nat.reduceEqDiff,Nat.reduceAdd,Nat.reduceLeDiff,reduceCtorEq]
 generalize hz:zloop KK _ _=rl
 have hN:min fs.length 30≤30:=Nat.min_le_right _ _
 refine zfor rl hz (min fs.length 30) (KK_lt (by omega)) (by omega) (fun i t s c=>sget s 0=some (.fix 30 [d,e,v,f])∧1≤c∧tget t 1 = .ptr 0 0∧∀ j,j<i→∀ h:j<fs.length,FdSm fs[j]) (by simp [ex_val]) ⟨s0,hc,by simp [ex_val,q1],nofun⟩ ?_
 clear hz s0 hc q1
 rintro i t s c hi ⟨s0,hc,q1,hn⟩ q4
 by_cases hlt:i<fs.length
 ·by_cases h30:i<30
  ·have k1:decide ((i:Int)<30)=true:=by rw [decide_eq_true_eq]; omega
   have hrow:=hf.row hlt
   have hx:=hfs _ (List.getElem_mem hlt)
   have hpn:=hx.p.nag
   have hbn:=hx.b.nag
   have f0:(0=c)=False:=eq_false (by omega)
   have htk:∀ a b c:D,takeAt [a,b,c] 0 (some 3)=some (.agg [a,b,c]):=fun _ _ _=>rfl
   obtain ⟨b,h11,hb⟩:=c11 n hx.b
   by_cases e1:100<fs[i].name.length
   ·have k2:decide ((100:Int)<(fs[i].name.length:Nat))=true:=by rw [decide_eq_true_eq]; omega
    simp only [start_eq,argTm,exq,ex_ls1,exb,Ab.abq,↓reduceIte,Nat.reduceEqDiff,Nat.reduceAdd,Nat.reduceLeDiff,reduceCtorEq,s0,f0,q1,q4,hf.len,lt_dec hlt,k1,hf.ia hlt,hrow,fdC,htk,hpn,hbn,k2,nb]
    exact out10 (by simp [ex_val])
   ·have k2:decide ((100:Int)<(fs[i].name.length:Nat))=false:=by rw [decide_eq_false_iff_not]; omega
    by_cases e2:4<fs[i].ps.length
    ·have k3:decide ((4:Int)<(fs[i].ps.length:Nat))=true:=by rw [decide_eq_true_eq]; omega
     simp only [start_eq,argTm,exq,ex_ls1,exb,Ab.abq,↓reduceIte,Nat.reduceEqDiff,Nat.reduceAdd,Nat.reduceLeDiff,reduceCtorEq,s0,f0,q1,q4,hf.len,lt_dec hlt,k1,hf.ia hlt,hrow,fdC,htk,hpn,hbn,k2,hx.p.len,k3,nb]
     exact out10 (by simp [ex_val])
    ·have k3:decide ((4:Int)<(fs[i].ps.length:Nat))=false:=by rw [decide_eq_false_iff_not]; omega
     cases b
     ·have hB:=hb rfl
      have hp:=hx.p
      have hlen:=hp.len
      simp only [start_eq,argTm,exq,ex_ls1,exb,Ab.abq,↓reduceIte,Nat.reduceEqDiff,Nat.reduceAdd,Nat.reduceLeDiff,reduceCtorEq,s0,f0,q1,q4,hf.len,lt_dec hlt,k1,hf.ia hlt,hrow,fdC,htk,hpn,hbn,k2,hlen,k3,fn_pure (f:=11) rfl,ex_call,hx.b.fz,h11,nb]
      generalize hS:sset (sadd s c _) c _=S
      generalize hz:zloop KK _ _=rl2
      have sc:sget S c=some (.fix 79 [.str fs[i].name,fs[i].pd,fs[i].bd]):=by rw [←hS]; simp [ex_val]
      have s0':sget S 0=some (.fix 30 [d,e,v,f]):=by rw [←hS]; simp only [ex_val,f0,if_false]; exact s0
      refine zfor rl2 hz fs[i].ps.length (KK_lt (by omega)) (by omega) (fun k t s' c'=>s'=S∧c'=c+1∧tget t 1 = .ptr 0 0∧tget t 4 = .int .i64 (i:Nat)∧tget t 5 = .ptr c 0∧∀ j,j<k→∀ h:j<fs[i].ps.length,fs[i].ps[j].length≤100) (by simp [ex_val]) ⟨rfl,rfl,by simp [ex_val,q1],by simp [ex_val,q4],by simp [ex_val],nofun⟩ ?_
      clear hz q4 hS
      rintro k t s' c' hk ⟨rfl,rfl,q1,q4,q5,hn2⟩ q6
      by_cases hkl:k<fs[i].ps.length
      ·by_cases e3:100<fs[i].ps[k].length
       ·have k4:decide ((100:Int)<(fs[i].ps[k].length:Nat))=true:=by rw [decide_eq_true_eq]; omega
        simp only [start_eq,argTm,exq,ex_ls1,exb,Ab.abq,↓reduceIte,Nat.reduceEqDiff,Nat.reduceAdd,Nat.reduceLeDiff,reduceCtorEq,sc,q1,q4,q5,q6,hlen,lt_dec hkl,hp.ia1 hkl,hp.at1 hkl,strC,k4,nb]
        exact out10 (by simp [ex_val])
       ·have k4:decide ((100:Int)<(fs[i].ps[k].length:Nat))=false:=by rw [decide_eq_false_iff_not]; omega
        simp only [start_eq,argTm,exq,ex_ls1,exb,Ab.abq,↓reduceIte,Nat.reduceEqDiff,Nat.reduceAdd,Nat.reduceLeDiff,reduceCtorEq,sc,q1,q4,q5,q6,hlen,lt_dec hkl,hp.ia1 hkl,hp.at1 hkl,strC,k4,nb]
        refine ⟨hkl,trivial,trivial,trivial,trivial,trivial,trivial,trivial,trivial,fun j hj h => ?_⟩
        rcases Nat.lt_succ_iff_lt_or_eq.1 hj with h'|rfl
        ·exact hn2 j h' h
        ·omega
      ·have e1':k=fs[i].ps.length:=by omega
       subst e1'
       simp only [start_eq,argTm,exq,ex_ls1,exb,Ab.abq,↓reduceIte,Nat.reduceEqDiff,Nat.reduceAdd,Nat.reduceLeDiff,reduceCtorEq,sc,s0',q1,q4,q5,q6,hlen,ge_dec (Nat.le_refl fs[i].ps.length),nb]
       refine ⟨by omega,trivial,trivial,trivial,trivial,by first|trivial|omega,trivial,fun j hj h => ?_⟩
       rcases Nat.lt_succ_iff_lt_or_eq.1 hj with h'|rfl
       ·exact hn j h' h
       ·exact ⟨by omega,by omega,hB,fun y hy=>by
         obtain ⟨m,hm,rfl⟩:=List.getElem_of_mem hy
         exact hn2 m hm hm⟩
     ·simp only [start_eq,argTm,exq,ex_ls1,exb,Ab.abq,↓reduceIte,Nat.reduceEqDiff,Nat.reduceAdd,Nat.reduceLeDiff,reduceCtorEq,s0,f0,q1,q4,hf.len,lt_dec hlt,k1,hf.ia hlt,hrow,fdC,htk,hpn,hbn,k2,hx.p.len,k3,fn_pure (f:=11) rfl,ex_call,hx.b.fz,h11,nb]
      exact out10 (by simp [ex_val])
  ·have k1:decide ((i:Int)<30)=false:=by rw [decide_eq_false_iff_not]; omega
   simp only [start_eq,argTm,exq,ex_ls1,exb,Ab.abq,↓reduceIte,Nat.reduceEqDiff,Nat.reduceAdd,Nat.reduceLeDiff,reduceCtorEq,s0,q1,q4,hf.len,lt_dec hlt,k1,nb]
   exact Z10_ok n hd he hv hf s0 (by simp [ex_val,q1]) hvn fun h=>absurd h (by omega)
 ·have e1:i=fs.length:=by omega
  subst e1
  simp only [start_eq,argTm,exq,ex_ls1,exb,Ab.abq,↓reduceIte,Nat.reduceEqDiff,Nat.reduceAdd,Nat.reduceLeDiff,reduceCtorEq,s0,q1,q4,hf.len,ge_dec (Nat.le_refl fs.length),nb]
  exact Z10_ok n hd he hv hf s0 (by simp [ex_val,q1]) hvn fun h x hx=>by
   obtain ⟨j,hj,rfl⟩:=List.getElem_of_mem hx
   exact hn j hj hj
theorem c10 (n:Nat) {ss:List (List UInt8)} {us:List Nat} {d e v f:D} {vs:List Vr} {fs:List Fd} (hd:Sl 1 strC ss d) (he:Sl 1 u8C us e) (hv:Sl 6 vrC vs v) (hf:Sl 3 fdC fs f) (hfs:∀ x∈fs,FdIn x):∃ b,cl (n+1) 10 [.agg [d,e,v,f]]=some (.bool b,true)∧(b=false→NotLarge ss us vs fs):=by
 rw [cl_run (A:=A10) rfl (n+1) _ rfl,show A10.body=B10 from rfl]
 show Out10 (n+1) ss us vs fs _
 rw [B10_eq]
 simp only [start_eq,argTm,exq,ex_ls1,exb,Ab.abq,↓reduceIte,Nat.reduceEqDiff,Nat.reduceAdd,Nat.reduceLeDiff,reduceCtorEq,hd.nag,he.nag,hv.nag,hf.nag]
 generalize hz:zloop KK _ _=rl
 have hN:min vs.length 50≤50:=Nat.min_le_right _ _
 refine zfor rl hz (min vs.length 50) (KK_lt (by omega)) (by omega) (fun i t s c=>sget s 0=some (.fix 30 [d,e,v,f])∧1≤c∧tget t 1 = .ptr 0 0∧∀ j,j<i→∀ h:j<vs.length,vs[j].name.length≤100) (by simp [ex_val]) ⟨by simp [ex_val],by decide,by simp [ex_val],nofun⟩ ?_
 clear hz
 rintro i t s c hi ⟨s0,hc,q1,hn⟩ q3
 by_cases hgo:i<vs.length∧i<50
 ·obtain ⟨hlt,h50⟩:=hgo
  have k1:decide ((i:Int)<50)=true:=by rw [decide_eq_true_eq]; omega
  have g0:=hv.cell hlt (show 0<6 by omega)
  by_cases e1:100<vs[i].name.length
  ·have k2:decide ((100:Int)<(vs[i].name.length:Nat))=true:=by rw [decide_eq_true_eq]; omega
   simp only [start_eq,argTm,exq,ex_ls1,exb,Ab.abq,↓reduceIte,Nat.reduceEqDiff,Nat.reduceAdd,Nat.reduceLeDiff,reduceCtorEq,s0,q1,q3,hv.len,lt_dec hlt,k1,hv.ia hlt,g0,vrC,k2,nb]
   exact out10 (by simp [ex_val])
  ·have k2:decide ((100:Int)<(vs[i].name.length:Nat))=false:=by rw [decide_eq_false_iff_not]; omega
   simp only [start_eq,argTm,exq,ex_ls1,exb,Ab.abq,↓reduceIte,Nat.reduceEqDiff,Nat.reduceAdd,Nat.reduceLeDiff,reduceCtorEq,s0,q1,q3,hv.len,lt_dec hlt,k1,hv.ia hlt,g0,vrC,k2,nb]
   refine ⟨by omega,trivial,trivial,trivial,trivial,hc,trivial,fun j hj h => ?_⟩
   rcases Nat.lt_succ_iff_lt_or_eq.1 hj with h'|rfl
   ·exact hn j h' h
   ·omega
 ·have hvn:vs.length≤50→∀ x∈vs,x.name.length≤100:=fun h x hx=>by
   obtain ⟨j,hj,rfl⟩:=List.getElem_of_mem hx
   exact hn j (by omega) hj
  by_cases hlt:i<vs.length
  ·have k1:decide ((i:Int)<50)=false:=by rw [decide_eq_false_iff_not]; omega
   simp only [start_eq,argTm,exq,ex_ls1,exb,Ab.abq,↓reduceIte,Nat.reduceEqDiff,Nat.reduceAdd,Nat.reduceLeDiff,reduceCtorEq,s0,q1,q3,hv.len,lt_dec hlt,k1,nb]
   exact W10_ok n hd he hv hf hfs s0 hc (by simp [ex_val,q1]) hvn
  ·simp only [start_eq,argTm,exq,ex_ls1,exb,Ab.abq,↓reduceIte,Nat.reduceEqDiff,Nat.reduceAdd,Nat.reduceLeDiff,reduceCtorEq,s0,q1,q3,hv.len,ge_dec (Nat.le_of_not_lt hlt),nb]
   exact W10_ok n hd he hv hf hfs s0 hc (by simp [ex_val,q1]) hvn
end
end Zv
namespace Zv
open Go
noncomputable section
theorem fnd_cases (er:Int) (vs:List Vr) (s:List UInt8):∃ a b c d e x,fndD er vs s = .tup [.agg [.int .i64 a,.int .i64 b,.int .i64 c,.int .i64 d,.int .i64 e],.int .i64 x]:=by
 unfold fndD
 split
 ·exact of_cases vs s
 ·exact ⟨0,0,0,0,0,er,rfl⟩
theorem eqTs_c {off:Nat} {sz:Option Nat} {t:ET} {r:List (Nat × Option Nat × ET)} {xs:List D} {a:D} (h1:takeAt xs off sz=some a) (h3:eqT t a a=some true):eqTs ((off,sz,t)::r) xs xs=eqTs r xs xs:=by
 rw [eqTs,h1]; simp only [h3]; rfl
theorem eqT_i (a:Int):eqT .int (.int .i64 a) (.int .i64 a)=some true:=by
 rw [eqT,if_pos rfl,show (a==a)=true by simp]
theorem cmp5 (a b c d e:Int):cmpD (.ty (.parts [(0,none,.int),(1,none,.int),(2,some 2,.parts [(0,none,.int),(1,none,.int)]),(4,none,.int)])) (.agg [.int .i64 a,.int .i64 b,.int .i64 c,.int .i64 d,.int .i64 e]) (.agg [.int .i64 a,.int .i64 b,.int .i64 c,.int .i64 d,.int .i64 e])=some true:=by
 rw [cmpD,eqT]
 rw [eqTs_c (a := .int .i64 a) rfl (eqT_i a),eqTs_c (a := .int .i64 b) rfl (eqT_i b),eqTs_c (a := .agg [.int .i64 c,.int .i64 d]) rfl,eqTs_c (a := .int .i64 e) rfl (eqT_i e)]
 ·rw [eqTs]
 ·rw [eqT,eqTs_c (a := .int .i64 c) rfl (eqT_i c),eqTs_c (a := .int .i64 d) rfl (eqT_i d),eqTs]
theorem c6 (n:Nat) {ss:List (List UInt8)} {us:List Nat} {d e v f:D} {vs:List Vr} {fs:List Fd} (hd:Sl 1 strC ss d) (he:Sl 1 u8C us e) (hu:Bytes8 us) (hv:Sl 6 vrC vs v) (hf:Sl 3 fdC fs f) (hfs:∀ x∈fs,FdIn x) (nm:List UInt8) :
  ∃ fl,cl (n+407) 6 [.agg [d,e,v,f],.str nm]=some (.bool true,fl):=by
 rw [cl_run (A:=A6) rfl (n+407) _ rfl,show A6.body=B6 from rfl]
 simp only [B6,Ab.abq]
 have htk:takeAt [d,e,v,f] 0 (some 4)=some (.agg [d,e,v,f]):=rfl
 have k12:∀ (n j:Nat) (s:St) (c:Nat),fn n (j+1) (.fn 12) [] s c = .ok (.ret (.bool true)) s c:=fun n j s c=>fn_known (f:=12) rfl rfl rfl rfl rfl n j c
 obtain ⟨b,h10,hb⟩:=c10 (n+405) hd he hv hf hfs
 cases b
 case true=>
  simp only [start_eq,argTm,exq,ex_ls1,exb,Ab.abq,↓reduceIte,Nat.reduceEqDiff,Nat.reduceAdd,Nat.reduceLeDiff,reduceCtorEq,hd.nag,he.nag,hv.nag,hf.nag,htk,fn_pure (f:=10) rfl,ex_call,hd.fz,he.fz,hv.fz,hf.fz,h10,k12,A6]
  exact ⟨_,rfl⟩
 obtain ⟨hL,h40,h20,hvn,hfn⟩:=hb rfl
 by_cases h100:100<nm.length
 ·have k1:decide ((100:Int)<(nm.length:Nat))=true:=by rw [decide_eq_true_eq]; omega
  simp only [start_eq,argTm,exq,ex_ls1,exb,Ab.abq,↓reduceIte,Nat.reduceEqDiff,Nat.reduceAdd,Nat.reduceLeDiff,reduceCtorEq,hd.nag,he.nag,hv.nag,hf.nag,htk,fn_pure (f:=10) rfl,ex_call,hd.fz,he.fz,hv.fz,hf.fz,h10,k1,k12,A6]
  exact ⟨_,rfl⟩
 have k1:decide ((100:Int)<(nm.length:Nat))=false:=by rw [decide_eq_false_iff_not]; omega
 have hs:Small ss:=by
  unfold LargeB at hL
  simp only [Bool.or_eq_false_iff,decide_eq_false_iff_not,List.any_eq_false,List.mem_range] at hL
  obtain ⟨h1,h2,_⟩:=hL
  intro s hs
  obtain ⟨i,hi,rfl⟩:=List.mem_iff_getElem.1 hs
  have:=h1 i (by omega)
  rw [lgetD hi,decide_eq_true_eq] at this
  omega
 have hE:EnvOk vs fs v f:=⟨hv,hf,by omega,by omega,fun x hx=>by have:=hvn x hx; omega,fun x hx=>by
  have h:=hfn x hx
  have hi:=hfs x hx
  have hb:=h.b
  exact ⟨by have:=h.nm; omega,hi.p,hi.b,fun s hs=>by have:=h.pn s hs; omega,by have:=h.pl; omega,by have:=hb.1; omega,fun hl y hy=>by have:=hb.2 hl y hy; omega⟩⟩
 obtain ⟨er,h22,h23⟩:∃ er:Int,(∀ m,cl (m+12) 22 [.agg [d,e,v,f]]=some (.int .i64 er,true))∧∀ m,cl (m+405) 23 [.agg [d,e,v,f]]=some (.int .i64 er,true):=by
  rcases CHK_cases ss us with ⟨hC,_⟩|⟨x,er,hC,hne⟩
  ·exact ⟨_,fun m=>c22 m hd he hu hs hC hE,fun m=>c23 m hd he hu hs hC hE⟩
  ·exact ⟨er,fun m=>c22e m hd he hu hs hC hne hE,fun m=>c23e m hd he hu hs hC hne hE⟩
 have h20:=c20 (n+404) hd.nag he.nag hf.nag hd.fz he.fz hf.fz hv hE.vl (h22 (n+393)) nm
 have h21:=c21 (n+404) hd.nag he.nag hf.nag hd.fz he.fz hf.fz hv hE.vl (h23 n) nm
 have h22:=h22 (n+394)
 have h23:=h23 (n+1)
 obtain ⟨a1,a2,a3,a4,a5,a6,hfd⟩:=fnd_cases er vs nm
 rw [hfd] at h20 h21
 have hc:=cmp5 a1 a2 a3 a4 a5
 have htk5:∀ a b c d e:Int,takeAt [.int .i64 a,.int .i64 b,.int .i64 c,.int .i64 d,.int .i64 e] 0 (some 5)=some (.agg [.int .i64 a,.int .i64 b,.int .i64 c,.int .i64 d,.int .i64 e]):=fun _ _ _ _ _=>rfl
 simp only [start_eq,argTm,exq,ex_ls1,exb,Ab.abq,↓reduceIte,Nat.reduceEqDiff,Nat.reduceAdd,Nat.reduceLeDiff,reduceCtorEq,hd.nag,he.nag,hv.nag,hf.nag,htk,htk5,fn_pure (f:=10) rfl,fn_pure (f:=20) rfl,fn_pure (f:=21) rfl,fn_pure (f:=22) rfl,fn_pure (f:=23) rfl,ex_call,hd.fz,he.fz,hv.fz,hf.fz,h10,h20,h21,h22,h23,k1,k12,hc,zipO,killT,AOp.kd,zop,tks,sameStep,sd_or,nb,A6]
 exact ⟨_,rfl⟩
end
end Zv
