/- What functions come to: Check of an environment by the document: names, functions. Conditions: none. -/
import Derived.Test.YtoefcncofakjkaaGreatDoorQC
import Derived.Test.YtoefcncofakjkaaGreatDoorQB
import Derived.Test.YtoefcncofakjkaaGreatDoorCA
import Derived.Test.YtoefcncofakjkaaGreatDoorLA
set_option linter.unusedVariables false
set_option linter.unusedSimpArgs false
set_option maxRecDepth 100000
namespace Zv
open Go
noncomputable section
theorem app_g1 {α:Type} {e:α→List D} (he:EncG 1 e) {sz:Nat} (hsz:sz≤4096) {B:Nat} {t:Tm} {s:St} {c:Nat} {dd:List (D × List D)} {r:Option Nat} {q:D} {L:List α} {k:α} {ty ty':Nat} {b:D} {A:Option (D × AS)} (hA:appD ⟨t,sadd s c (.fix ty' [b]),c+1,dd,r⟩ 1 sz ty q (.ms c 0 1 1 1)=A) (hb:e k=[b]) (hO:OwnG 1 e B s q L) (hL:L.length<4294967295) (hc:B≤c) (hfr:∀ m,c≤m→sget s m=none) :
  ∃ q' s' c',A=some (q',⟨t,s',c',dd,r⟩)∧OwnG 1 e B s' q' (L++[k])∧c+1≤c'∧(∀ m,m<B→sget s' m=sget s m)∧∀ m,c'≤m→sget s' m=none:=by
 subst hA
 obtain ⟨q',s',c',h1,h2,h3,h4,h5⟩:=own_appG he (B:=B) (l:=L) (l':=[k]) (sz:=sz) (ty:=ty) hsz (x:=⟨t,sadd s c (.fix ty' [b]),c+1,dd,r⟩) (q:=q) (b := .ms c 0 1 1 1) rfl
  (hO.keep fun m b _ hb=>by simp only [ex_val]; rw [if_neg (by intro e; rw [e,hfr _ (Nat.le_refl _)] at hb; cases hb)]; exact hb) (by simp only [sliceCells,ex_val,↓reduceIte,cellsG,List.map_cons,List.map_nil,List.flatten_cons,List.flatten_nil,hb]; rfl) (by simp only [List.length_cons,List.length_nil]; omega) (by simp only; omega)
  (fun m hm=>by simp only at hm; simp only [ex_val]; rw [if_neg (by omega)]; exact hfr m (by omega))
 exact ⟨q',s',c',h1,h2,h3,fun m hm=>by rw [h4 m hm]; simp only [ex_val]; rw [if_neg (by omega)],h5⟩
def twP (L:List (List UInt8)) (s:List UInt8) (i:Nat):Option Int:=match L[i]? with|some x=>if x=s then some 8 else none|none=>none
theorem tw_scan (L:List (List UInt8)) (s:List UInt8):scan (twP L s) 0 L.length 0=if s∈L then 8 else 0:=by
 rcases scan_cases (twP L s) (0:Int) L.length 0 with ⟨h1,h2⟩|⟨m,r,_,hm,h3,_,h5⟩
 ·rw [h2,if_neg]
  intro h
  obtain ⟨j,hj,rfl⟩:=List.getElem_of_mem h
  have:=h1 j (by omega) (by omega)
  rw [twP,List.getElem?_eq_getElem hj] at this
  simp at this
 ·rw [h5]
  have hm':m<L.length:=by omega
  rw [twP,List.getElem?_eq_getElem hm'] at h3
  simp only at h3
  split at h3
  ·rename_i h; cases h3; rw [if_pos (h ▸ List.getElem_mem hm')]
  ·cases h3
theorem c63 (n:Nat) {s:List UInt8} (hs:s.length<9223372036854775807) {L:List (List UInt8)} {d:D} (hd:Sl 1 strC L d) (hl:L.length<9223372036854775807):cl (n+4) 37 [.str s,d]=some (.int .i64 (nameE s L),true):=by
 rw [cl_run (A:=A37) rfl (n+4) _ rfl,show A37.body=B37 from rfl]
 unfold B37 nameE
 have h112:=c112 n s hs
 cases hb:isName s
 ·rw [hb] at h112
  simp only [z2,seval,fn_pure (f:=65) rfl,ex_call,h112,nb,A37]; rfl
 ·rw [hb] at h112
  rw [if_pos rfl,←tw_scan]
  simp only [z2,seval,fn_pure (f:=65) rfl,ex_call,h112,nb]
  generalize hz:zloop KK _ _=rl
  refine zfor rl hz L.length (KK_lt hl) hl (fun i t st c=>tget t 0 = .str s∧tget t 1=d∧∀ j,j<i→twP L s j=none) (by simp [ex_val]) (by simp [ex_val]) ?_
  rintro i t st c hi ⟨q0,q1,hn⟩ q5
  by_cases hlt:i<L.length
  ·by_cases e:L[i]=s
   ·have hp:twP L s i=some 8:=by rw [twP,List.getElem?_eq_getElem hlt]; exact if_pos e
    simp only [z2,seval,q0,q1,q5,hd.len,lt_dec hlt,hd.ia1 hlt,hd.at1 hlt,strC,decide_eq_true e,nb,A37]
    rw [scan_at hlt hp hn]; rfl
   ·have hp:twP L s i=none:=by rw [twP,List.getElem?_eq_getElem hlt]; exact if_neg e
    simp only [z2,seval,q0,q1,q5,hd.len,lt_dec hlt,hd.ia1 hlt,hd.at1 hlt,strC,decide_eq_false e,nb]
    exact ⟨hlt,trivial,trivial,trivial,trivial,trivial,none_step hn hp⟩
  ·have e1:i=L.length:=by omega
   subst e1
   rw [scan_end hn]
   simp only [z2,seval,q0,q1,q5,hd.len,ge_dec (Nat.le_refl L.length),A37]
   rfl
theorem c64 (n:Nat) {x:Fd} (hx:FdOk x):cl (n+404) 39 [.agg [.str x.name,x.pd,x.bd]]=some (.int .i64 (defE x),true):=by
 rw [cl_run (A:=A39) rfl (n+404) _ rfl,show A39.body=B39 from rfl]
 obtain ⟨xn,ps,bo,pd,bd⟩:=x
 have h48:=c48 n hx.b hx.bl hx.nd
 obtain ⟨T,x,y,_,h1,_⟩:=c79 n hx.b hx.bl hx.nd
 have h2:=exE_eq h1
 rw [h1] at h48
 have hp:=hx.p
 have hlen:=hp.len
 have hfz:=hx.b.fz
 have hpn:=hp.nag
 have hbn:=hx.b.nag
 have hpl:=hx.pl
 have hnm:=hx.pn
 unfold B39 defE
 simp only at *
 rw [h2]
 by_cases hl:ps.length=1∨ps.length=2
 ·have k1:decide ((ps.length:Int)<1)=false:=dF (by omega)
  have k2:decide ((2:Int)<(ps.length:Int))=false:=dF (by omega)
  rw [if_pos hl]
  simp only [z2,seval,hlen,k1,k2,hpn,hbn,nb]
  generalize hz:zloop KK _ _=rl
  refine zfor rl hz ps.length (KK_lt hpl) hpl (fun i t s c=>sget s 0=some (.fix 44 [.str xn,pd,bd])∧tget t 1 = .ptr 0 0∧∀ j,j<i→∀ h:j<ps.length,isName ps[j]=true) (by simp [ex_val]) (by simp [ex_val]) ?_
  rintro i t s c hi ⟨s0,q1,hn⟩ q3
  by_cases hlt:i<ps.length
  ·have h112:=c112 (n+400) ps[i] (hnm _ (List.getElem_mem hlt))
   cases hb:isName ps[i]
   ·have ha:¬ ps.all isName=true:=fun h=>by
     have:=List.all_eq_true.1 h _ (List.getElem_mem hlt)
     rw [hb] at this; cases this
    rw [hb] at h112
    rw [if_neg ha]
    simp only [z2,seval,s0,q1,q3,hlen,lt_dec hlt,hp.ia1 hlt,hp.at1 hlt,strC,fn_pure (f:=65) rfl,ex_call,h112,nb,A39]; rfl
   ·rw [hb] at h112
    simp only [z2,seval,s0,q1,q3,hlen,lt_dec hlt,hp.ia1 hlt,hp.at1 hlt,strC,fn_pure (f:=65) rfl,ex_call,h112,nb]
    refine ⟨hlt,trivial,trivial,trivial,trivial,trivial,fun j hj h => ?_⟩
    rcases Nat.lt_succ_iff_lt_or_eq.1 hj with h'|rfl
    ·exact hn j h' h
    ·exact hb
  ·have e1:i=ps.length:=by omega
   subst e1
   have ha:ps.all isName=true:=List.all_eq_true.2 fun y hy=>by
    obtain ⟨j,hj,rfl⟩:=List.getElem_of_mem hy
    exact hn j hj hj
   rw [if_pos ha]
   clear hn
   have q3':=q3
   clear q3
   rcases hl with hl|hl
   ·obtain ⟨a,rfl⟩:∃ a,ps=[a]:=by
     match ps,hl with
     | [a],_=>exact ⟨a,rfl⟩
    rw [if_neg (by simp)]
    have k2:decide ((([a]:List (List UInt8)).length:Int)=2)=false:=rfl
    simp only [z2,seval,s0,q1,q3',hlen,ge_dec (Nat.le_refl ([a]:List (List UInt8)).length),k2,zipO,killT,AOp.kd,zop,tks,sameStep,sd_or,fn_pure (f:=68) rfl,ex_call,hfz,h48,namesD_e2,nb,A39]
    rfl
   ·obtain ⟨a,b,rfl⟩:∃ a b,ps=[a,b]:=by
     match ps,hl with
     | [a,b],_=>exact ⟨a,b,rfl⟩
    have k2:decide ((([a,b]:List (List UInt8)).length:Int)=2)=true:=rfl
    have ia:iaSD 1 pd (.int .i64 0)=some (.iptr ([a,b].map strC).flatten 0):=hp.ia1 (i:=0) (by simp)
    have ib:iaSD 1 pd (.int .i64 1)=some (.iptr ([a,b].map strC).flatten 1):=hp.ia1 (i:=1) (by simp)
    have at0:([a,b].map strC).flatten[0]?=some (.str a):=rfl
    have at1:([a,b].map strC).flatten[1]?=some (.str b):=rfl
    by_cases hab:a=b
    ·rw [if_pos ⟨rfl,by simpa using hab⟩]
     simp only [z2,seval,s0,q1,q3',hlen,ge_dec (Nat.le_refl ([a,b]:List (List UInt8)).length),k2,ia,ib,at0,at1,decide_eq_true hab,zipO,killT,AOp.kd,zop,tks,sameStep,sd_or,fn_pure (f:=68) rfl,ex_call,hfz,h48,namesD_e2,nb,A39]
     rfl
    ·rw [if_neg (fun h=>hab (by simpa using h.2))]
     simp only [z2,seval,s0,q1,q3',hlen,ge_dec (Nat.le_refl ([a,b]:List (List UInt8)).length),k2,ia,ib,at0,at1,decide_eq_false hab,zipO,killT,AOp.kd,zop,tks,sameStep,sd_or,fn_pure (f:=68) rfl,ex_call,hfz,h48,namesD_e2,nb,A39]
     rfl
 ·rw [if_neg hl]
  by_cases h1:ps.length<1
  ·have k1:decide ((ps.length:Int)<1)=true:=dT (by omega)
   simp only [z2,seval,hlen,k1,hpn,hbn,nb,A39]
   rfl
  ·have k1:decide ((ps.length:Int)<1)=false:=dF (by omega)
   have k2:decide ((2:Int)<(ps.length:Int))=true:=dT (by omega)
   simp only [z2,seval,hlen,k1,k2,hpn,hbn,nb,A39]
   rfl
end
end Zv
namespace Zv
open Go Ab
noncomputable section
def W23:AC:=(s (s (r [c 8 (i 0)]) (.block 4 (.loop (s (s (r [m 71 8,f 72 3 1,l 73 72,u 74 (.len false (.t 73)),b 75 .lss 71 74]) (.cond (.t 75) .skip (.exit 4))) (s (.block 6 (s (r [f 78 3 1,l 79 78,m 80 8,u 81 (.iaS 3 (.t 79) (.t 80)),f 82 0 81,l 83 82,m 84 5,u 85 (.call 37 [(.t 83),(.t 84)]),m 9 85]) (s (s (r [m 86 9,d 87 .eql 86 (i 0)]) (.cond (.t 87) (r [f 88 3 1,l 89 88,m 90 8,u 91 (.iaS 3 (.t 89) (.t 90)),u 92 (.ld (some 3) (.t 91)),u 93 (.call 39 [(.t 92)]),m 9 93]) .skip)) (s (s (r [m 94 9,d 95 .neq 94 (i 0)]) (.cond (.t 95) (s (r [m 96 9,m 2 96]) .ret) .skip)) (r [m 97 5,f 98 3 1,l 99 98,m 100 8,u 101 (.iaS 3 (.t 99) (.t 100)),f 102 0 101,l 103 102,u 104 (.bsl 1 1 [(.str [])] [(0,1,(.t 103))]),u 105 (.app 1 16 10 (.t 97) (.t 104)),m 5 105]))))) (r [m 76 8,d 77 .add 76 (i 1),m 8 77])))))) (s (r [c 2 (i 0)]) .ret))
def U23:AC:=(s (s (r [c 6 (i 0)]) (.block 0 (.loop (s (s (r [m 33 6,f 34 2 1,l 35 34,u 36 (.len false (.t 35)),b 37 .lss 33 36]) (.cond (.t 37) .skip (.exit 0))) (s (.block 2 (s (r [f 40 2 1,l 41 40,m 42 6,u 43 (.iaS 6 (.t 41) (.t 42)),f 44 0 43,l 45 44,m 46 5,u 47 (.call 37 [(.t 45),(.t 46)]),m 7 47]) (s (s (r [m 48 7,d 49 .eql 48 (i 0)]) (.cond (.t 49) (.reg (some [(0,0),(1,0),(2,0),(3,0),(4,0),(5,0),(6,0),(7,0),(8,0),(9,0)]) [f 50 0 1,u 51 (.ld (some 2) (.t 50)),f 52 2 1,l 53 52,m 54 6,u 55 (.iaS 6 (.t 53) (.t 54)),f 56 1 55,u 57 (.ld (some 5) (.t 56)),u 58 (.call 38 [(.t 51),(.t 57)]),m 7 58]) .skip)) (s (s (r [m 59 7,d 60 .neq 59 (i 0)]) (.cond (.t 60) (s (r [m 61 7,m 2 61]) .ret) .skip)) (r [m 62 5,f 63 2 1,l 64 63,m 65 6,u 66 (.iaS 6 (.t 64) (.t 65)),f 67 0 66,l 68 67,u 69 (.bsl 1 1 [(.str [])] [(0,1,(.t 68))]),u 70 (.app 1 16 10 (.t 62) (.t 69)),m 5 70]))))) (r [m 38 6,d 39 .add 38 (i 1),m 6 39])))))) W23)
theorem B23_eq:B20=(s (r [u 1 (.new 30 (.t 0)),c 2 (i 0)]) (s (r [f 11 0 1,u 12 (.ld (some 2) (.t 11)),u 13 (.call 36 [(.t 12)]),m 10 13,e 14 0 10,e 15 1 10,m 3 14,m 4 15]) (s (s (r [m 16 4,d 17 .eql 16 (i 0),m 18 17,y 19 18 (.fa 2 (.t 1)),y 20 18 (.ld none (.t 19)),y 21 18 (.len false (.t 20)),y 22 18 (.bin .gtr (.t 21) (.c (i 32))),my 23 22 18,n 24 23 (.fa 3 (.t 1)),n 25 23 (.ld none (.t 24)),n 26 23 (.len false (.t 25)),n 27 23 (.bin .gtr (.t 26) (.c (i 16))),y 28 18 (.pick (.t 23) (.c (.bool true)) (.t 27)),u 29 (.pick (.t 18) (.t 28) (.c (.bool false)))]) (.cond (.t 29) (r [c 4 (i 3)]) .skip)) (s (s (r [m 30 4,d 31 .neq 30 (i 0)]) (.cond (.t 31) (s (r [m 32 4,m 2 32]) .ret) .skip)) (s (r [c 5 .nils]) U23))))):=rfl
structure I23 (d e v f:D) (L:List (List UInt8)) (t:Tm) (s:St) (c:Nat):Prop where
 s0:sget s 0=some (.fix 30 [d,e,v,f])
 hc:1≤c
 hf:∀ m,c≤m→sget s m=none
 own:OwnG 1 strC 1 s (tget t 5) L
 q1:tget t 1 = .ptr 0 0
def Out23 (n:Nat) (r:R) (e:Int):Prop:=pout (zbody (dfn n MM) A20 r)=some (.int .i64 e,true)
theorem W23_ok (n:Nat) {d e v f:D} {vs:List Vr} {fs:List Fd} (hE:EnvOk vs fs v f) (hv:vs.length≤32) (hfl:fs.length≤16) {t:Tm} {s:St} {c:Nat} (hI:I23 d e v f (vs.map Vr.name) t s c) :
  Out23 (n+405) (zC W23 (cxn (n+405)) (fn (n+405) 4096) KK ⟨t,s,c,[],none⟩) (scan (dfP vs fs) 0 fs.length 0):=by
 simp only [W23,Ab.abq]
 simp only [z2,seval]
 generalize hz:zloop KK _ _=rl
 refine zfor rl hz fs.length (KK_lt hE.fl) hE.fl (fun i t s c=>I23 d e v f (vs.map Vr.name++(fs.take i).map Fd.name) t s c∧∀ j,j<i→dfP vs fs j=none) (by simp [ex_val])
  ⟨by rw [List.take_zero,List.map_nil,List.append_nil]; exact ⟨hI.s0,hI.hc,hI.hf,by simp only [ex_val]; exact hI.own,by simp [ex_val,hI.q1]⟩,nofun⟩ ?_
 clear hI hz
 rintro i t s c hi ⟨hI,hn⟩ q8
 by_cases hlt:i<fs.length
 ·have hrow:=hE.f.row hlt
  have hok:=hE.fo _ (List.getElem_mem hlt)
  have hll:(vs.map Vr.name++(fs.take i).map Fd.name).length<1000:=by rw [List.length_append,List.length_map,List.length_map,List.length_take]; omega
  obtain ⟨r,hr,hrs⟩:=hI.own.fz enc_str false
  have h63:=c63 (n+400) hok.nm hrs (by omega)
  have h64:=c64 n hok
  have hgl:fs[i]?=some fs[i]:=List.getElem?_eq_getElem hlt
  have hst:=take_map_succ Fd.name hlt
  have hP:dfP vs fs i=if nameE fs[i].name (vs.map Vr.name++(fs.take i).map Fd.name)=0 then (if defE fs[i]=0 then none else some (defE fs[i])) else some (nameE fs[i].name (vs.map Vr.name++(fs.take i).map Fd.name)):=by rw [dfP,hgl]
  have g0:=hE.f.cell hlt (show 0<3 by omega)
  have hpn:=hok.p.nag
  have hbn:=hok.b.nag
  have hpf:=hok.p.fz
  have hbf:=hok.b.fz
  rw [hst,←List.append_assoc]
  generalize hN:nameE fs[i].name (vs.map Vr.name++(fs.take i).map Fd.name)=en at *
  generalize hL:vs.map Vr.name++(fs.take i).map Fd.name=L at *
  by_cases h0:en=0
  ·subst h0
   simp only [if_true] at hP
   by_cases h1:defE fs[i]=0
   ·rw [if_pos h1] at hP
    rw [h1] at h64
    have hO:=hI.own
    simp only [z2,seval,hI.q1,q8,hE.f.len,lt_dec hlt,hE.f.ia hlt,hrow,fdC,g0,hI.s0,hpn,hbn,fn_pure (f:=37) rfl,fn_pure (f:=39) rfl,ex_call,hr,h63,hpf,hbf,h64,nb]
    generalize hA:appD _ 1 16 10 _ _=A
    obtain ⟨q',s',c',rfl,hO',hc',hfs,hfr'⟩:=app_g1 enc_str (by decide) (B:=1) (k:=fs[i].name) hA rfl hO (by omega) hI.hc hI.hf
    simp only [z2,seval]
    exact ⟨hlt,trivial,trivial,by simp [ex_val,q8],⟨by rw [hfs 0 (by decide)]; exact hI.s0,by omega,hfr',by simp only [ex_val]; exact hO',by simp [ex_val,hI.q1]⟩,none_step hn hP⟩
   ·rw [if_neg h1] at hP
    simp only [z2,seval,hI.q1,q8,hE.f.len,lt_dec hlt,hE.f.ia hlt,hrow,fdC,g0,hI.s0,hpn,hbn,fn_pure (f:=37) rfl,fn_pure (f:=39) rfl,ex_call,hr,h63,hpf,hbf,h64,decide_eq_false h1,nb]
    rw [scan_at hlt hP hn]
    unfold Out23
    simp only [z2,seval,A20]; rfl
  ·simp only [if_neg h0] at hP
   simp only [z2,seval,hI.q1,q8,hE.f.len,lt_dec hlt,hE.f.ia hlt,hrow,fdC,g0,hI.s0,hpn,hbn,fn_pure (f:=37) rfl,ex_call,hr,h63,decide_eq_false h0,nb]
   rw [scan_at hlt hP hn]
   unfold Out23
   simp only [z2,seval,A20]; rfl
 ·have e1:i=fs.length:=by omega
  subst e1
  rw [scan_end hn]
  unfold Out23
  simp only [z2,seval,hI.q1,q8,hE.f.len,hI.s0,ge_dec (Nat.le_refl fs.length),A20]
  rfl
theorem U23_ok (n:Nat) {ss:List (List UInt8)} {us:List Nat} {d e v f:D} {vs:List Vr} {fs:List Fd} (hd:Sl 1 strC ss d) (he:Sl 1 u8C us e) (hu:Bytes8 us) (hC:CHK ss us=e2 0 0) (hE:EnvOk vs fs v f) (hv:vs.length≤32) (hfl:fs.length≤16) {t:Tm} {s:St} {c:Nat} (hI:I23 d e v f [] t s c) :
  Out23 (n+405) (zC U23 (cxn (n+405)) (fn (n+405) 4096) KK ⟨t,s,c,[],none⟩) (scan (vP us vs) (scan (dfP vs fs) 0 fs.length 0) vs.length 0):=by
 obtain ⟨hul,⟨h1,h8⟩,_⟩:=CHK_ord hC
 simp only [U23,Ab.abq]
 simp only [z2,seval]
 generalize hz:zloop KK _ _=rl
 refine zfor rl hz vs.length (KK_lt hE.vl) hE.vl (fun i t s c=>I23 d e v f ((vs.take i).map Vr.name) t s c∧∀ j,j<i→vP us vs j=none) (by simp [ex_val])
  ⟨⟨hI.s0,hI.hc,hI.hf,by simp only [ex_val]; exact hI.own,by simp [ex_val,hI.q1]⟩,nofun⟩ ?_
 clear hI hz
 rintro i t s c hi ⟨hI,hn⟩ q6
 by_cases hlt:i<vs.length
 ·have hrow:=hE.v.row hlt
  have hll:((vs.take i).map Vr.name).length<1000:=by rw [List.length_map,List.length_take]; omega
  obtain ⟨r,hr,hrs⟩:=hI.own.fz enc_str false
  have h63:=c63 (n+400) (hE.vn _ (List.getElem_mem hlt)) hrs (by omega)
  have h55:=c55 (n+402) hd he hu hul (by omega) (by omega) vs[i].ty
  have hgl:vs[i]?=some vs[i]:=List.getElem?_eq_getElem hlt
  have hst:=take_map_succ Vr.name hlt
  have hP:vP us vs i=if nameE vs[i].name ((vs.take i).map Vr.name)=0 then (if tyE us (lowI us) vs[i].ty=0 then none else some (tyE us (lowI us) vs[i].ty)) else some (nameE vs[i].name ((vs.take i).map Vr.name)):=by rw [vP,hgl]
  have g0:=hE.v.cell hlt (show 0<6 by omega)
  have htk:takeAt [d,e,v,f] 0 (some 2)=some (.agg [d,e]):=rfl
  have htk5:takeAt (vs.map vrC).flatten (i*6+1) (some 5)=some (.agg (tyC vs[i].ty)):=by
   have hb:=IsSl.ble hE.v (i:=i) (by rw [List.length_map]; exact hlt)
   have h2:=IsSl.tk hE.v (i:=i) (by rw [List.length_map]; exact hlt)
   rw [List.getElem_map] at h2
   simp only [takeAt]
   rw [Nat.ble_eq_true_of_le (by omega),cond_true]
   have:((vs.map vrC).flatten.drop (i*6+1)).take 5=(((vs.map vrC).flatten.drop (i*6)).take 6).drop 1:=by rw [List.drop_take,List.drop_drop]
   rw [this,h2]; rfl
  rw [hst]
  simp only [tyC] at h55 htk5
  generalize hN:nameE vs[i].name ((vs.take i).map Vr.name)=en at *
  generalize hT:tyE us (lowI us) vs[i].ty=et at *
  generalize hL:(vs.take i).map Vr.name=L at *
  by_cases h0:en=0
  ·subst h0
   simp only [if_true] at hP
   by_cases h1:et=0
   ·subst h1
    rw [if_pos rfl] at hP
    have hO:=hI.own
    simp only [z2,seval,hI.q1,q6,hE.v.len,lt_dec hlt,hE.v.ia hlt,vrC,g0,hI.s0,hd.nag,he.nag,fn_pure (f:=37) rfl,fn_pure (f:=38) rfl,ex_call,hr,h63,hd.fz,he.fz,htk,htk5,h55,zipO,killT,AOp.kd,zop,tks,sameStep,sd_or,nb]
    generalize hA:appD _ 1 16 10 _ _=A
    obtain ⟨q',s',c',rfl,hO',hc',hfs,hfr'⟩:=app_g1 enc_str (by decide) (B:=1) (k:=vs[i].name) hA rfl hO (by omega) (Nat.le_trans hI.hc (Nat.le_add_right _ _)) (fun m hm=>hI.hf m (by simp only [List.length_cons,List.length_nil] at hm; omega))
    simp only [z2,seval]
    exact ⟨hlt,trivial,trivial,by simp [ex_val,q6],⟨by rw [hfs 0 (by decide)]; exact hI.s0,by omega,hfr',by simp only [ex_val]; exact hO',by simp [ex_val,hI.q1]⟩,none_step hn hP⟩
   ·rw [if_neg h1] at hP
    simp only [z2,seval,hI.q1,q6,hE.v.len,lt_dec hlt,hE.v.ia hlt,vrC,g0,hI.s0,hd.nag,he.nag,fn_pure (f:=37) rfl,fn_pure (f:=38) rfl,ex_call,hr,h63,hd.fz,he.fz,htk,htk5,h55,zipO,killT,AOp.kd,zop,tks,sameStep,sd_or,decide_eq_false h1,nb]
    rw [scan_at hlt hP hn]
    unfold Out23
    simp only [z2,seval,A20]; rfl
  ·simp only [if_neg h0] at hP
   simp only [z2,seval,hI.q1,q6,hE.v.len,lt_dec hlt,hE.v.ia hlt,vrC,g0,hI.s0,fn_pure (f:=37) rfl,ex_call,hr,h63,decide_eq_false h0,nb]
   rw [scan_at hlt hP hn]
   unfold Out23
   simp only [z2,seval,A20]; rfl
 ·have e1:i=vs.length:=by omega
  subst e1
  rw [List.take_length] at hI
  rw [scan_end hn]
  simp only [z2,seval,hI.q1,q6,hE.v.len,hI.s0,ge_dec (Nat.le_refl vs.length)]
  exact W23_ok n hE hv hfl ⟨hI.s0,hI.hc,hI.hf,by simp only [ex_val]; exact hI.own,by simp [ex_val,hI.q1]⟩
theorem c23e (n:Nat) {ss:List (List UInt8)} {us:List Nat} {d e v f:D} {vs:List Vr} {fs:List Fd} (hd:Sl 1 strC ss d) (he:Sl 1 u8C us e) (hu:Bytes8 us) (hs:Small ss) {x er:Int} (hC:CHK ss us=e2 x er) (h0:er≠0) (hE:EnvOk vs fs v f):cl (n+405) 20 [.agg [d,e,v,f]]=some (.int .i64 er,true):=by
 rw [cl_run (A:=A20) rfl (n+405) _ rfl,show A20.body=B20 from rfl,B23_eq]
 have h54:=c54 (n+401) hd he hu hs
 rw [hC] at h54
 have htk:takeAt [d,e,v,f] 0 (some 2)=some (.agg [d,e]):=rfl
 simp only [z2,seval,hd.nag,he.nag,hE.v.nag,hE.f.nag,htk,fn_pure (f:=36) rfl,ex_call,hd.fz,he.fz,h54,namesD_e2,decide_eq_false h0,nb,A20]
 rfl
theorem c23 (n:Nat) {ss:List (List UInt8)} {us:List Nat} {d e v f:D} {vs:List Vr} {fs:List Fd} (hd:Sl 1 strC ss d) (he:Sl 1 u8C us e) (hu:Bytes8 us) (hs:Small ss) (hC:CHK ss us=e2 0 0) (hE:EnvOk vs fs v f):cl (n+405) 20 [.agg [d,e,v,f]]=some (.int .i64 (envE us vs fs),true):=by
 rw [cl_run (A:=A20) rfl (n+405) _ rfl,show A20.body=B20 from rfl,B23_eq]
 have h54:=c54 (n+401) hd he hu hs
 rw [hC] at h54
 have htk:takeAt [d,e,v,f] 0 (some 2)=some (.agg [d,e]):=rfl
 unfold envE
 by_cases h32:32<vs.length
 ·have k1:decide ((32:Int)<vs.length)=true:=dT (by omega)
  rw [if_pos (.inl h32)]
  simp only [z2,seval,hd.nag,he.nag,hE.v.nag,hE.f.nag,hE.v.len,hE.f.len,k1,htk,fn_pure (f:=36) rfl,ex_call,hd.fz,he.fz,h54,namesD_e2,Int.reduceEq,nb,A20]
  rfl
 have k1:decide ((32:Int)<vs.length)=false:=dF (by omega)
 by_cases h16:16<fs.length
 ·have k2:decide ((16:Int)<fs.length)=true:=dT (by omega)
  rw [if_pos (.inr h16)]
  simp only [z2,seval,hd.nag,he.nag,hE.v.nag,hE.f.nag,hE.v.len,hE.f.len,k1,k2,htk,fn_pure (f:=36) rfl,ex_call,hd.fz,he.fz,h54,namesD_e2,Int.reduceEq,nb,A20]
  rfl
 have k2:decide ((16:Int)<fs.length)=false:=dF (by omega)
 rw [if_neg (by omega)]
 simp only [z2,seval,hd.nag,he.nag,hE.v.nag,hE.f.nag,hE.v.len,hE.f.len,k1,k2,htk,fn_pure (f:=36) rfl,ex_call,hd.fz,he.fz,h54,namesD_e2,Int.reduceEq,nb]
 refine U23_ok n hd he hu hC hE (by omega) (by omega) ⟨by simp [ex_val],by decide,fun m hm => ?_,by simp only [ex_val]; exact .inl ⟨rfl,rfl⟩,by simp [ex_val]⟩
 simp only [ex_val,sget_st0]; rw [if_neg (by omega)]
end
end Zv
namespace Zv
open Go
noncomputable section
def NotLong (l:List Nd):Prop:=l.length≤405∧(l.length≤400→∀ x∈l,x.name.length≤500∧x.text.length≤500)
theorem c11 (n:Nat) {l:List Nd} {d:D} (hd:Sl 7 nodeC l d):∃ b,cl n 22 [d]=some (.bool b,true)∧(b=false→NotLong l):=by
 rw [cl_run (A:=A22) rfl n _ rfl,show A22.body=B22 from rfl]
 simp only [B22,Ab.abq]
 simp only [z2,seval]
 generalize hz:zloop KK _ _=rl
 have hN:min l.length 80≤80:=Nat.min_le_right _ _
 refine zfor rl hz (min l.length 80) (KK_lt (by omega)) (by omega) (fun i t s c=>tget t 0=d∧∀ j,j<i→∀ h:j<l.length,l[j].name.length≤500∧l[j].text.length≤500) (by simp [ex_val]) ⟨by simp [ex_val],nofun⟩ ?_
 rintro i t s c hi ⟨q0,hn⟩ q3
 by_cases hlt:i<l.length
 ·by_cases h80:i<80
  ·have k1:decide ((i:Int)<80)=true:=dT (by omega)
   have g3:=hd.cell hlt (show 3<7 by omega)
   have g4:=hd.cell hlt (show 4<7 by omega)
   by_cases e1:500<l[i].name.length
   ·have k2:decide ((500:Int)<(l[i].name.length:Nat))=true:=dT (by omega)
    simp only [z2,seval,q0,q3,hd.len,lt_dec hlt,k1,hd.ia hlt,g3,g4,nodeC,k2,nb,A22]
    exact ⟨true,rfl,nofun⟩
   ·have k2:decide ((500:Int)<(l[i].name.length:Nat))=false:=dF (by omega)
    by_cases e2:500<l[i].text.length
    ·have k3:decide ((500:Int)<(l[i].text.length:Nat))=true:=dT (by omega)
     simp only [z2,seval,q0,q3,hd.len,lt_dec hlt,k1,hd.ia hlt,g3,g4,nodeC,k2,k3,nb,A22]
     exact ⟨true,rfl,nofun⟩
    ·have k3:decide ((500:Int)<(l[i].text.length:Nat))=false:=dF (by omega)
     simp only [z2,seval,q0,q3,hd.len,lt_dec hlt,k1,hd.ia hlt,g3,g4,nodeC,k2,k3,nb]
     refine ⟨by omega,trivial,trivial,trivial,trivial,fun j hj h => ?_⟩
     rcases Nat.lt_succ_iff_lt_or_eq.1 hj with h'|rfl
     ·exact hn j h' h
     ·exact ⟨by omega,by omega⟩
  ·have k1:decide ((i:Int)<80)=false:=dF (by omega)
   have k60:decide ((60:Int)<(l.length:Nat))=true:=dT (by omega)
   by_cases e4:l.length≤400
   ·have k4:decide (((l.length:Nat):Int)≤400)=true:=dT (by omega)
    simp only [z2,seval,q0,q3,hd.len,lt_dec hlt,k1,k60,k4,nb,A22]
    exact ⟨true,rfl,nofun⟩
   ·have k4:decide (((l.length:Nat):Int)≤400)=false:=dF (by omega)
    simp only [z2,seval,q0,q3,hd.len,lt_dec hlt,k1,k60,k4,nb,A22]
    exact ⟨decide ((405:Int)<(l.length:Nat)),rfl,fun h=>⟨by rw [decide_eq_false_iff_not] at h; omega,fun h'=>absurd h' e4⟩⟩
 ·have e1:i=l.length:=by omega
  subst e1
  have h60:l.length≤80:=by omega
  have hall:∀ x∈l,x.name.length≤500∧x.text.length≤500:=fun x hx=>by
   obtain ⟨j,hj,rfl⟩:=List.getElem_of_mem hx
   exact hn j hj hj
  have k4:decide (((l.length:Nat):Int)≤400)=true:=dT (by omega)
  have k5:decide ((405:Int)<(l.length:Nat))=false:=dF (by omega)
  by_cases e:60<l.length
  ·have k60:decide ((60:Int)<(l.length:Nat))=true:=dT (by omega)
   simp only [z2,seval,q0,q3,hd.len,ge_dec (Nat.le_refl l.length),k60,k4,k5,nb,A22]
   exact ⟨true,rfl,nofun⟩
  ·have k60:decide ((60:Int)<(l.length:Nat))=false:=dF (by omega)
   simp only [z2,seval,q0,q3,hd.len,ge_dec (Nat.le_refl l.length),k60,k4,k5,nb,A22]
   exact ⟨false,rfl,fun _=>⟨by omega,fun _=>hall⟩⟩
end
end Zv
namespace Zv
open Go Ab
noncomputable section
theorem latD_cases (n:Nat) (u:Nat→Nat):latD n u=e2 0 0∨∃ a:Int,latD n u=e2 a 4:=by
 unfold latD
 rcases scan_cases (latP n u) (e2 0 0) n 0 with ⟨_,h⟩|⟨m,r,_,h2,h3,_,h5⟩
 ·exact .inl h
 ·rw [h5]; unfold latP at h3
  cases hb:latB n u m <;> rw [hb] at h3
  ·cases h3; exact .inr ⟨m,rfl⟩
  ·cases h3
theorem CHK_cases (ss:List (List UInt8)) (us:List Nat):(CHK ss us=e2 0 0∧us.length=ss.length∧1≤ss.length∧ss.length≤8∧(∀ a,a<ss.length→ordB ss.length (uM us) a=true))∨∃ a er:Int,CHK ss us=e2 a er∧er≠0:=by
 unfold CHK
 rcases namesD_cases ss with ⟨h1,h2⟩|⟨h1,a,er,h2,h3⟩
 ·rw [if_pos h1]
  have hn:=namesB_iff.1 h1
  by_cases hl:us.length=ss.length
  ·rw [if_pos hl]
   unfold ordD
   rcases scan_cases (ordP ss.length (uM us)) (latD ss.length (uM us)) ss.length 0 with ⟨hb,h⟩|⟨m,r,_,h2,h3,_,h5⟩
   ·rw [h]
    rcases latD_cases ss.length (uM us) with h'|⟨a,h'⟩
    ·refine .inl ⟨h',hl,hn.1.1,hn.1.2,fun a ha => ?_⟩
     have:=hb a (by omega) (by omega)
     unfold ordP at this
     cases ho:ordB ss.length (uM us) a
     ·rw [ho] at this; cases this
     ·rfl
    ·exact .inr ⟨a,4,h',by decide⟩
   ·rw [h5]; unfold ordP at h3
    cases hb:ordB ss.length (uM us) m <;> rw [hb] at h3
    ·cases h3; exact .inr ⟨_,_,rfl,by decide⟩
    ·cases h3
  ·rw [if_neg hl]; exact .inr ⟨_,_,rfl,by decide⟩
 ·rw [if_neg (by rw [h1]; decide)]; exact .inr ⟨a,er,h2,h3⟩
structure FdIn (f:Fd):Prop where
 p:Sl 1 strC f.ps f.pd
 b:Sl 7 nodeC f.body f.bd
structure FdSm (f:Fd):Prop where
 nm:f.name.length≤100
 pl:f.ps.length≤4
 b:NotLong f.body
 pn:∀ s∈f.ps,s.length≤100
def NotLarge (ss:List (List UInt8)) (us:List Nat) (vs:List Vr) (fs:List Fd):Prop:=LargeB ss us=false∧vs.length≤40∧fs.length≤20∧(∀ x∈vs,x.name.length≤100)∧∀ x∈fs,FdSm x
def Out10 (n:Nat) (ss:List (List UInt8)) (us:List Nat) (vs:List Vr) (fs:List Fd) (r:R):Prop:=∃ b,pout (zbody (dfn n MM) A10 r)=some (.bool b,true)∧(b=false→NotLarge ss us vs fs)
def Z10:AC:=(s (r [f 71 0 1,u 72 (.ld (some 2) (.t 71)),u 73 (.call 23 [(.t 72)]),m 74 73,n 75 74 (.fa 2 (.t 1)),n 76 74 (.ld none (.t 75)),n 77 74 (.len false (.t 76)),n 78 74 (.bin .gtr (.t 77) (.c (i 40))),u 79 (.pick (.t 74) (.c (.bool true)) (.t 78)),m 80 79,n 81 80 (.fa 3 (.t 1)),n 82 80 (.ld none (.t 81)),n 83 80 (.len false (.t 82)),n 84 80 (.bin .gtr (.t 83) (.c (i 20))),u 85 (.pick (.t 80) (.c (.bool true)) (.t 84)),m 2 85]) .ret)
def W10:AC:=(s (s (r [c 4 (i 0)]) (.block 4 (.loop (s (s (r [m 26 4,f 27 3 1,l 28 27,u 29 (.len false (.t 28)),b 30 .lss 26 29,m 31 30,my 32 4 31,y 33 31 (.bin .lss (.t 32) (.c (i 30))),u 34 (.pick (.t 31) (.t 33) (.c (.bool false)))]) (.cond (.t 34) .skip (.exit 4))) (s (.block 6 (s (r [f 37 3 1,l 38 37,m 39 4,u 40 (.iaS 3 (.t 38) (.t 39)),u 41 (.ld (some 3) (.t 40)),u 5 (.new 44 (.c (.agg [(.str []),.nils,.nils]))),w (.st 3 (.t 5) (.t 41))]) (s (s (r [f 42 0 5,l 43 42,u 44 (.len true (.t 43)),d 45 .gtr 44 (i 100),m 46 45,n 47 46 (.fa 1 (.t 5)),n 48 46 (.ld none (.t 47)),n 49 46 (.len false (.t 48)),n 50 46 (.bin .gtr (.t 49) (.c (i 4))),u 51 (.pick (.t 46) (.c (.bool true)) (.t 50)),m 52 51,n 53 52 (.fa 2 (.t 5)),n 54 52 (.ld none (.t 53)),n 55 52 (.call 22 [(.t 54)]),u 56 (.pick (.t 52) (.c (.bool true)) (.t 55))]) (.cond (.t 56) (s (r [c 2 (.bool true)]) .ret) .skip)) (s (r [c 6 (i 0)]) (.block 8 (.loop (s (s (r [m 57 6,f 58 1 5,l 59 58,u 60 (.len false (.t 59)),b 61 .lss 57 60]) (.cond (.t 61) .skip (.exit 8))) (s (.block 10 (s (r [f 64 1 5,l 65 64,m 66 6,u 67 (.iaS 1 (.t 65) (.t 66)),l 68 67,u 69 (.len true (.t 68)),d 70 .gtr 69 (i 100)]) (.cond (.t 70) (s (r [c 2 (.bool true)]) .ret) .skip))) (r [m 62 6,d 63 .add 62 (i 1),m 6 63]))))))))) (r [m 35 4,d 36 .add 35 (i 1),m 4 36])))))) Z10)
theorem B10_eq:B10=(s (r [u 1 (.new 30 (.t 0)),c 2 (.bool false)]) (s (s (r [c 3 (i 0)]) (.block 0 (.loop (s (s (r [m 7 3,f 8 2 1,l 9 8,u 10 (.len false (.t 9)),b 11 .lss 7 10,m 12 11,my 13 3 12,y 14 12 (.bin .lss (.t 13) (.c (i 50))),u 15 (.pick (.t 12) (.t 14) (.c (.bool false)))]) (.cond (.t 15) .skip (.exit 0))) (s (.block 2 (s (r [f 18 2 1,l 19 18,m 20 3,u 21 (.iaS 6 (.t 19) (.t 20)),f 22 0 21,l 23 22,u 24 (.len true (.t 23)),d 25 .gtr 24 (i 100)]) (.cond (.t 25) (s (r [c 2 (.bool true)]) .ret) .skip))) (r [m 16 3,d 17 .add 16 (i 1),m 3 17])))))) W10)):=rfl
theorem out10 {n:Nat} {ss:List (List UInt8)} {us:List Nat} {vs:List Vr} {fs:List Fd} {t:Tm} {s:St} {c:Nat} (h:tget t 2 = .bool true):Out10 n ss us vs fs (.ok .ret ⟨t,s,c,[],none⟩):=
 ⟨true,by simp only [z2,seval,A10,h]; rfl,nofun⟩
theorem Z10_ok (n:Nat) {ss:List (List UInt8)} {us:List Nat} {d e v f:D} {vs:List Vr} {fs:List Fd} (hd:Sl 1 strC ss d) (he:Sl 1 u8C us e) (hv:Sl 6 vrC vs v) (hf:Sl 3 fdC fs f) {t:Tm} {s:St} {c:Nat} (s0:sget s 0=some (.fix 30 [d,e,v,f])) (q1:tget t 1 = .ptr 0 0)
  (hvn:vs.length≤50→∀ x∈vs,x.name.length≤100) (hfn:fs.length≤30→∀ x∈fs,FdSm x):Out10 (n+1) ss us vs fs (zC Z10 (cxn (n+1)) (fn (n+1) 4096) KK ⟨t,s,c,[],none⟩):=by
 simp only [Z10,Ab.abq]
 have h28:=c28 n hd he
 have htk:takeAt [d,e,v,f] 0 (some 2)=some (.agg [d,e]):=rfl
 cases hL:LargeB ss us
 ·rw [hL] at h28
  by_cases h40:40<vs.length
  ·have k1:decide ((40:Int)<(vs.length:Nat))=true:=dT (by omega)
   simp only [z2,seval,s0,q1,htk,fn_pure (f:=23) rfl,ex_call,hd.fz,he.fz,h28,hv.len,k1,nb]
   exact out10 (by simp [ex_val])
  ·have k1:decide ((40:Int)<(vs.length:Nat))=false:=dF (by omega)
   by_cases h20:20<fs.length
   ·have k2:decide ((20:Int)<(fs.length:Nat))=true:=dT (by omega)
    simp only [z2,seval,s0,q1,htk,fn_pure (f:=23) rfl,ex_call,hd.fz,he.fz,h28,hv.len,hf.len,k1,k2,nb]
    exact out10 (by simp [ex_val])
   ·have k2:decide ((20:Int)<(fs.length:Nat))=false:=dF (by omega)
    simp only [z2,seval,s0,q1,htk,fn_pure (f:=23) rfl,ex_call,hd.fz,he.fz,h28,hv.len,hf.len,k1,k2,nb]
    exact ⟨false,by simp only [z2,seval,A10]; rfl,fun _=>⟨hL,by omega,by omega,hvn (by omega),hfn (by omega)⟩⟩
 ·rw [hL] at h28
  simp only [z2,seval,s0,q1,htk,fn_pure (f:=23) rfl,ex_call,hd.fz,he.fz,h28,nb]
  exact out10 (by simp [ex_val])
theorem W10_ok (n:Nat) {ss:List (List UInt8)} {us:List Nat} {d e v f:D} {vs:List Vr} {fs:List Fd} (hd:Sl 1 strC ss d) (he:Sl 1 u8C us e) (hv:Sl 6 vrC vs v) (hf:Sl 3 fdC fs f) (hfs:∀ x∈fs,FdIn x) {t:Tm} {s:St} {c:Nat} (s0:sget s 0=some (.fix 30 [d,e,v,f])) (hc:1≤c) (q1:tget t 1 = .ptr 0 0)
  (hvn:vs.length≤50→∀ x∈vs,x.name.length≤100):Out10 (n+1) ss us vs fs (zC W10 (cxn (n+1)) (fn (n+1) 4096) KK ⟨t,s,c,[],none⟩):=by
 simp only [W10,Ab.abq]
 simp only [z2,seval]
 generalize hz:zloop KK _ _=rl
 have hN:min fs.length 30≤30:=Nat.min_le_right _ _
 refine zfor rl hz (min fs.length 30) (KK_lt (by omega)) (by omega) (fun i t s c=>sget s 0=some (.fix 30 [d,e,v,f])∧1≤c∧tget t 1 = .ptr 0 0∧∀ j,j<i→∀ h:j<fs.length,FdSm fs[j]) (by simp [ex_val]) ⟨s0,hc,by simp [ex_val,q1],nofun⟩ ?_
 clear hz s0 hc q1
 rintro i t s c hi ⟨s0,hc,q1,hn⟩ q4
 by_cases hlt:i<fs.length
 ·by_cases h30:i<30
  ·have k1:decide ((i:Int)<30)=true:=dT (by omega)
   have hrow:=hf.row hlt
   have hx:=hfs _ (List.getElem_mem hlt)
   have hpn:=hx.p.nag
   have hbn:=hx.b.nag
   have f0:(0=c)=False:=eq_false (by omega)
   have htk:∀ a b c:D,takeAt [a,b,c] 0 (some 3)=some (.agg [a,b,c]):=fun _ _ _=>rfl
   obtain ⟨b,h11,hb⟩:=c11 n hx.b
   by_cases e1:100<fs[i].name.length
   ·have k2:decide ((100:Int)<(fs[i].name.length:Nat))=true:=dT (by omega)
    simp only [z2,seval,s0,f0,q1,q4,hf.len,lt_dec hlt,k1,hf.ia hlt,hrow,fdC,htk,hpn,hbn,k2,nb]
    exact out10 (by simp [ex_val])
   ·have k2:decide ((100:Int)<(fs[i].name.length:Nat))=false:=dF (by omega)
    by_cases e2:4<fs[i].ps.length
    ·have k3:decide ((4:Int)<(fs[i].ps.length:Nat))=true:=dT (by omega)
     simp only [z2,seval,s0,f0,q1,q4,hf.len,lt_dec hlt,k1,hf.ia hlt,hrow,fdC,htk,hpn,hbn,k2,hx.p.len,k3,nb]
     exact out10 (by simp [ex_val])
    ·have k3:decide ((4:Int)<(fs[i].ps.length:Nat))=false:=dF (by omega)
     cases b
     ·have hB:=hb rfl
      have hp:=hx.p
      have hlen:=hp.len
      simp only [z2,seval,s0,f0,q1,q4,hf.len,lt_dec hlt,k1,hf.ia hlt,hrow,fdC,htk,hpn,hbn,k2,hlen,k3,fn_pure (f:=22) rfl,ex_call,hx.b.fz,h11,nb]
      generalize hS:sset (sadd s c _) c _=S
      generalize hz:zloop KK _ _=rl2
      have sc:sget S c=some (.fix 44 [.str fs[i].name,fs[i].pd,fs[i].bd]):=by rw [←hS]; simp [ex_val]
      have s0':sget S 0=some (.fix 30 [d,e,v,f]):=by rw [←hS]; simp only [ex_val,f0,if_false]; exact s0
      refine zfor rl2 hz fs[i].ps.length (KK_lt (by omega)) (by omega) (fun k t s' c'=>s'=S∧c'=c+1∧tget t 1 = .ptr 0 0∧tget t 4 = .int .i64 (i:Nat)∧tget t 5 = .ptr c 0∧∀ j,j<k→∀ h:j<fs[i].ps.length,fs[i].ps[j].length≤100) (by simp [ex_val]) ⟨rfl,rfl,by simp [ex_val,q1],by simp [ex_val,q4],by simp [ex_val],nofun⟩ ?_
      clear hz q4 hS
      rintro k t s' c' hk ⟨rfl,rfl,q1,q4,q5,hn2⟩ q6
      by_cases hkl:k<fs[i].ps.length
      ·by_cases e3:100<fs[i].ps[k].length
       ·have k4:decide ((100:Int)<(fs[i].ps[k].length:Nat))=true:=dT (by omega)
        simp only [z2,seval,sc,q1,q4,q5,q6,hlen,lt_dec hkl,hp.ia1 hkl,hp.at1 hkl,strC,k4,nb]
        exact out10 (by simp [ex_val])
       ·have k4:decide ((100:Int)<(fs[i].ps[k].length:Nat))=false:=dF (by omega)
        simp only [z2,seval,sc,q1,q4,q5,q6,hlen,lt_dec hkl,hp.ia1 hkl,hp.at1 hkl,strC,k4,nb]
        refine ⟨hkl,trivial,trivial,trivial,trivial,trivial,trivial,trivial,trivial,fun j hj h => ?_⟩
        rcases Nat.lt_succ_iff_lt_or_eq.1 hj with h'|rfl
        ·exact hn2 j h' h
        ·omega
      ·have e1':k=fs[i].ps.length:=by omega
       subst e1'
       simp only [z2,seval,sc,s0',q1,q4,q5,q6,hlen,ge_dec (Nat.le_refl fs[i].ps.length),nb]
       refine ⟨by omega,trivial,trivial,trivial,trivial,by first|trivial|omega,trivial,fun j hj h => ?_⟩
       rcases Nat.lt_succ_iff_lt_or_eq.1 hj with h'|rfl
       ·exact hn j h' h
       ·exact ⟨by omega,by omega,hB,fun y hy=>by
         obtain ⟨m,hm,rfl⟩:=List.getElem_of_mem hy
         exact hn2 m hm hm⟩
     ·simp only [z2,seval,s0,f0,q1,q4,hf.len,lt_dec hlt,k1,hf.ia hlt,hrow,fdC,htk,hpn,hbn,k2,hx.p.len,k3,fn_pure (f:=22) rfl,ex_call,hx.b.fz,h11,nb]
      exact out10 (by simp [ex_val])
  ·have k1:decide ((i:Int)<30)=false:=dF (by omega)
   simp only [z2,seval,s0,q1,q4,hf.len,lt_dec hlt,k1,nb]
   exact Z10_ok n hd he hv hf s0 (by simp [ex_val,q1]) hvn fun h=>absurd h (by omega)
 ·have e1:i=fs.length:=by omega
  subst e1
  simp only [z2,seval,s0,q1,q4,hf.len,ge_dec (Nat.le_refl fs.length),nb]
  exact Z10_ok n hd he hv hf s0 (by simp [ex_val,q1]) hvn fun h x hx=>by
   obtain ⟨j,hj,rfl⟩:=List.getElem_of_mem hx
   exact hn j hj hj
theorem c10 (n:Nat) {ss:List (List UInt8)} {us:List Nat} {d e v f:D} {vs:List Vr} {fs:List Fd} (hd:Sl 1 strC ss d) (he:Sl 1 u8C us e) (hv:Sl 6 vrC vs v) (hf:Sl 3 fdC fs f) (hfs:∀ x∈fs,FdIn x):∃ b,cl (n+1) 10 [.agg [d,e,v,f]]=some (.bool b,true)∧(b=false→NotLarge ss us vs fs):=by
 rw [cl_run (A:=A10) rfl (n+1) _ rfl,show A10.body=B10 from rfl]
 show Out10 (n+1) ss us vs fs _
 rw [B10_eq]
 simp only [z2,seval,hd.nag,he.nag,hv.nag,hf.nag]
 generalize hz:zloop KK _ _=rl
 have hN:min vs.length 50≤50:=Nat.min_le_right _ _
 refine zfor rl hz (min vs.length 50) (KK_lt (by omega)) (by omega) (fun i t s c=>sget s 0=some (.fix 30 [d,e,v,f])∧1≤c∧tget t 1 = .ptr 0 0∧∀ j,j<i→∀ h:j<vs.length,vs[j].name.length≤100) (by simp [ex_val]) ⟨by simp [ex_val],by decide,by simp [ex_val],nofun⟩ ?_
 clear hz
 rintro i t s c hi ⟨s0,hc,q1,hn⟩ q3
 by_cases hgo:i<vs.length∧i<50
 ·obtain ⟨hlt,h50⟩:=hgo
  have k1:decide ((i:Int)<50)=true:=dT (by omega)
  have g0:=hv.cell hlt (show 0<6 by omega)
  by_cases e1:100<vs[i].name.length
  ·have k2:decide ((100:Int)<(vs[i].name.length:Nat))=true:=dT (by omega)
   simp only [z2,seval,s0,q1,q3,hv.len,lt_dec hlt,k1,hv.ia hlt,g0,vrC,k2,nb]
   exact out10 (by simp [ex_val])
  ·have k2:decide ((100:Int)<(vs[i].name.length:Nat))=false:=dF (by omega)
   simp only [z2,seval,s0,q1,q3,hv.len,lt_dec hlt,k1,hv.ia hlt,g0,vrC,k2,nb]
   refine ⟨by omega,trivial,trivial,trivial,trivial,hc,trivial,fun j hj h => ?_⟩
   rcases Nat.lt_succ_iff_lt_or_eq.1 hj with h'|rfl
   ·exact hn j h' h
   ·omega
 ·have hvn:vs.length≤50→∀ x∈vs,x.name.length≤100:=fun h x hx=>by
   obtain ⟨j,hj,rfl⟩:=List.getElem_of_mem hx
   exact hn j (by omega) hj
  by_cases hlt:i<vs.length
  ·have k1:decide ((i:Int)<50)=false:=dF (by omega)
   simp only [z2,seval,s0,q1,q3,hv.len,lt_dec hlt,k1,nb]
   exact W10_ok n hd he hv hf hfs s0 hc (by simp [ex_val,q1]) hvn
  ·simp only [z2,seval,s0,q1,q3,hv.len,ge_dec (Nat.le_of_not_lt hlt),nb]
   exact W10_ok n hd he hv hf hfs s0 hc (by simp [ex_val,q1]) hvn
end
end Zv
