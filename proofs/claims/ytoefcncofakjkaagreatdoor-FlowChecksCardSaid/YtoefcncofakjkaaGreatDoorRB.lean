/- What a place is, and what a check of it says; labels of one's own. Conditions: none. -/
import Derived.Test.YtoefcncofakjkaaGreatDoorRA
import Derived.Test.YtoefcncofakjkaaGreatDoorQC
import Derived.Test.YtoefcncofakjkaaGreatDoorCA
set_option linter.unusedVariables false
set_option linter.unusedSimpArgs false
set_option maxRecDepth 100000
namespace Zv
open Go
noncomputable section
def chC (c:List UInt8 × Int):List D:=[.str c.1,.int .i64 c.2]
def ruC (r:Int × Int × Int):List D:=[.int .i64 r.1,.int .i64 r.2.1,.int .i64 r.2.2]
def ruB (n:Nat) (r:Int × Int × Int):Bool:=(labB n r.1&&labB n r.2.1)&&(decide (2≤r.2.2)&&decide (r.2.2≤400))
def plE (n:Nat) (cs:List (List UInt8 × Int)) (rs:List (Int × Int × Int)) (pc ec:Int):Int:=
 if 16<cs.length∨64<rs.length then 3 else if (labB n pc&&labB n ec)&&(cs.all (fun c=>labB n c.2)&&rs.all (ruB n)) then 0 else 7
theorem k21 (n:Nat) {ss:List (List UInt8)} {d e:D} (hd:Sl 1 strC ss d) (hen:isAg e=false) (a:Int):cl n 21 [.agg [d,e],.int .i64 a]=some (.bool (labB ss.length a),true):=by
 rw [cl_run (A:=A21) rfl n _ rfl,show A21.body=B21 from rfl]
 unfold B21 labB
 cases h:decide (0≤a)
 ·simp only [z2,seval,hd.len,hd.nag,hen,h,A21]; rfl
 ·simp only [z2,seval,hd.len,hd.nag,hen,h,A21]; rfl
def intC (a:Int):List D:=[.int .i64 a]
theorem enc_int:EncG 1 intC:=⟨fun _=>rfl,by decide,fun _=>rfl,fun _ _ _ _=>rfl⟩
def OwnL (B:Nat) (s:St) (q:D) (L:List Int):Prop:=OwnG 1 intC B s q L∨∃ m a b,B≤m∧q = .ms m 0 1 2 2∧sget s m=some (.fix 0 [.int .i64 a,.int .i64 b])∧L=[a,b]
theorem own_appL {sz ty B:Nat} (hsz:sz≤4096) {x:AS} {q b:D} {l l':List Int} {A:Option (D × AS)} (hA:appD x 1 sz ty q b=A) (h:OwnL B x.s q l) (hb:sliceCells x.s 1 b=some (cellsG intC l',l'.length)) (hne:0<l'.length) (hlen:l.length+l'.length≤1000) (hc:B≤x.c) (hfr:∀ m,x.c≤m→sget x.s m=none) :
  ∃ q' s' c',A=some (q',⟨x.t,s',c',x.d,x.r⟩)∧OwnL B s' q' (l++l')∧x.c≤c'∧(∀ nm,nm<B→sget s' nm=sget x.s nm)∧∀ m,c'≤m→sget s' m=none:=by
 rcases h with h|⟨m,a,b',hm,rfl,hs,rfl⟩
 ·obtain ⟨q',s',c',h1,h2,h3⟩:=own_appG enc_int hsz hA h hb (by omega) hc hfr
  exact ⟨q',s',c',h1,.inl h2,h3⟩
 ·subst hA
  have hrm:room (2+l'.length) sz=true:=by
   unfold room
   rw [Nat.ble_eq_true_of_le (by simp only [List.length_cons,List.length_nil] at hlen; omega),Nat.ble_eq_true_of_le hsz]; rfl
  have hb2:Nat.ble (2+l'.length) 2=false:=by rw [←Bool.not_eq_true,Nat.ble_eq]; omega
  unfold appD
  rw [hb]
  simp only [Option.bind_eq_bind,Option.bind_some,hs,hb2,hrm,cond_false]
  refine ⟨_,_,_,rfl,.inl (.inr (.inr ⟨x.c,ty,hc,?_,?_,?_⟩)),Nat.le_succ _,fun nm hn => ?_,fun k hk => ?_⟩
  ·rw [List.length_append]; rfl
  ·rw [sget_sadd,if_pos rfl,cellsG_app]; rfl
  ·simp
  ·show sget (sadd x.s x.c _) nm=_
   rw [sget_sadd,if_neg (by omega)]
  ·have hk:x.c+1≤k:=hk
   show sget (sadd x.s x.c _) k=_
   rw [sget_sadd,if_neg (by omega)]; exact hfr k (by omega)
theorem icells_at:∀ (L:List Int) (i:Nat) (h:i<L.length),(cellsG intC L)[i]?=some (.int .i64 L[i])
 | a::L,0,_=>rfl
 | a::L,i+1,h=>icells_at L i (by simpa using h)
theorem OwnL.len {B:Nat} {s:St} {q:D} {L:List Int} (h:OwnL B s q L):lenD false q=some L.length:=by
 rcases h with h|⟨m,a,b,_,rfl,_,rfl⟩
 ·exact h.len
 ·rfl
theorem OwnL.at {B:Nat} {s:St} {q:D} {L:List Int} (h:OwnL B s q L) {i:Nat} (hi:i<L.length):∃ nm b cs,iaSD 1 q (.int .i64 (i:Nat))=some (.ptr nm i)∧sget s nm=some b∧blkCells b=some cs∧cs[i]?=some (.int .i64 L[i]):=by
 rcases h with (⟨rfl,rfl⟩|⟨m,_,rfl,_,rfl⟩|⟨m,ty,_,rfl,hs,_⟩)|⟨m,a,b,_,rfl,hs,rfl⟩
 ·simp at hi
 ·simp at hi
 ·refine ⟨m,_,_,?_,hs,rfl,icells_at L i hi⟩
  simp only [iaSD,idxD_nat hi,Option.bind_some,Nat.beq_refl,cond_true,Nat.zero_add,Nat.mul_one]
 ·refine ⟨m,_,_,?_,hs,rfl,?_⟩
  ·simp only [iaSD]
   rw [idxD_nat (by simpa using hi)]
   simp only [Option.bind_some,Nat.beq_refl,cond_true,Nat.zero_add,Nat.mul_one]
  ·exact icells_at [a,b] i hi
end
end Zv
namespace Zv
open Go
noncomputable section
theorem f19 (n j:Nat) {ss:List (List UInt8)} {d:D} (hd:Sl 1 strC ss d) {r:List D} {ty:Nat} (a:Int) {S:St} {c:Nat} (s0:sget S 0=some (.fix ty (d::r))):fn n (j+1) (.fn 19) [.int .i64 a,.ptr 0 0] S c = .ok (.ret (.bool (!labB ss.length a))) S c:=by
 rw [fn_in (f:=19) (A:=A19) rfl rfl rfl rfl n j _ _ _ rfl,show A19.body=B19 from rfl]
 unfold B19 labB
 by_cases h:a<0
 ·rw [decide_eq_false (show ¬ 0≤a by omega)]
  simp only [z2,seval,decide_eq_true h,s0,hd.len,nb,A19]
 ·rw [decide_eq_true (show 0≤a by omega)]
  by_cases h2:a<(ss.length:Int)
  ·simp only [z2,seval,decide_eq_false h,s0,hd.len,decide_eq_true h2,decide_eq_false (show ¬ (ss.length:Int)≤a by omega),nb,A19]
  ·simp only [z2,seval,decide_eq_false h,s0,hd.len,decide_eq_false h2,decide_eq_true (show (ss.length:Int)≤a by omega),nb,A19]
def nlP (n:Nat) (L:List Int) (i:Nat):Option Int:=match L[i]? with|some a=>if labB n a=true then none else some (i:Int)|none=>none
theorem f35 (n j:Nat) {ss:List (List UInt8)} {d:D} (hd:Sl 1 strC ss d) {r:List D} {ty:Nat} {B:Nat} {q:D} {L:List Int} {S:St} {c:Nat} (s0:sget S 0=some (.fix ty (d::r))) (hq:OwnL B S q L) (hl:L.length≤1000) :
  fn n (j+2) (.fn 35) [q,.fn (.func 19) [] [.ptr 0 0]] S c = .ok (.ret (.int .i64 (scan (nlP ss.length L) (-1) L.length 0))) S c:=by
 rw [fn_in (f:=35) (A:=A35) rfl rfl rfl rfl n (j+1) _ _ _ rfl,show A35.body=B35 from rfl]
 simp only [B35,Ab.abq]
 simp only [z2,seval,hq.len]
 generalize hz:zloop KK _ _=rl
 refine zrange rl hz L.length (KK_lt (by omega)) (by omega) (fun i t s' c'=>s'=S∧c'=c∧tget t 0=q∧tget t 1 = .fn (.func 19) [] [.ptr 0 0]∧∀ k,k<i→nlP ss.length L k=none) (by decide) (by simp [ex_val]) (by simp [ex_val]) ⟨rfl,rfl,by simp [ex_val],by simp [ex_val],nofun⟩ ?_ ?_
 ·rintro i t s' c' hi ⟨rfl,rfl,q0,q1,hn⟩ hti htn
  obtain ⟨nm,b,cs,e1,e2,e3,e4⟩:=hq.at hi
  have h19:=f19 n j hd L[i] (S:=s') (c:=c') s0
  cases hb:labB ss.length L[i]
  ·have hp:nlP ss.length L i=some (i:Int):=by rw [nlP,List.getElem?_eq_getElem hi]; exact if_neg (by rw [hb]; decide)
   rw [hb] at h19
   simp only [z2,seval,q0,q1,hti,htn,e1,e2,e3,e4,ex_dfr,List.nil_append,List.append_nil,List.cons_append,h19,nb,A35]
   rw [scan_at hi hp hn]
  ·have hp:nlP ss.length L i=none:=by rw [nlP,List.getElem?_eq_getElem hi]; exact if_pos hb
   rw [hb] at h19
   simp only [z2,seval,q0,q1,hti,htn,e1,e2,e3,e4,ex_dfr,List.nil_append,List.append_nil,List.cons_append,h19,nb]
   exact ⟨trivial,trivial,trivial,.inr (.inr trivial),nofun,nofun,trivial,trivial,trivial,trivial,none_step hn hp⟩
 ·rintro t s' c' ⟨rfl,rfl,q0,q1,hn⟩ hti htn
  simp only [z2,seval,q0,q1,hti,htn,A35]
  rw [scan_end hn]
theorem f18 (n j:Nat) {ss:List (List UInt8)} {d:D} (hd:Sl 1 strC ss d) {r:List D} {ty:Nat} {B:Nat} {q:D} {L:List Int} {S:St} {c:Nat} (s0:sget S 0=some (.fix ty (d::r))) (hq:OwnL B S q L) (hl:L.length≤1000) :
  fn n (j+3) (.fn 18) [q,.fn (.func 19) [] [.ptr 0 0]] S c = .ok (.ret (.bool (!L.all (labB ss.length)))) S c:=by
 have h35:=f35 n j hd s0 hq hl (c:=c)
 rw [fn_in (f:=18) (A:=A18) rfl rfl rfl rfl n (j+2) _ _ _ rfl,show A18.body=B18 from rfl]
 simp only [B18,Ab.abq]
 rcases scan_cases (nlP ss.length L) (-1) L.length 0 with ⟨h1,h2⟩|⟨m,r',_,hm,h3,_,h5⟩
 ·rw [h2] at h35
  have ha:L.all (labB ss.length)=true:=List.all_eq_true.2 fun y hy=>by
   obtain ⟨i,hi,rfl⟩:=List.getElem_of_mem hy
   have:=h1 i (by omega) (by omega)
   rw [nlP,List.getElem?_eq_getElem hi] at this
   cases hb:labB ss.length L[i]
   ·simp [hb] at this
   ·rfl
  rw [ha]
  simp only [z2,seval,h35,A18] <;> rfl
 ·have hm':m<L.length:=by omega
  rw [h5] at h35
  rw [nlP,List.getElem?_eq_getElem hm'] at h3
  simp only at h3
  split at h3
  ·cases h3
  ·rename_i hb
   cases h3
   have ha:L.all (labB ss.length)=false:=by
    rw [←Bool.not_eq_true]
    exact fun h=>hb (List.all_eq_true.1 h _ (List.getElem_mem hm'))
   rw [ha]
   have hge:decide ((0:Int)≤(m:Nat))=true:=dT (by omega)
   simp only [z2,seval,h35,hge,nb,A18]
def K6:Nat:=1180591620717411303418
theorem zun6:∀ f x,zloop K5 f x=zbind (f x) (zloop K6 f):=fun _ _=>rfl
def w1:List UInt8:=[115,117,109]
def w2:List UInt8:=[99,111,117,110,116]
def w3:List UInt8:=[108,101,97,115,116]
def w4:List UInt8:=[109,111,115,116]
def foldD (w:List UInt8):D:=if w1=w then e2 1 0 else if w2=w then e2 2 0 else if w3=w then e2 3 0 else if w4=w then e2 4 0 else e2 0 4
theorem ix5:idxD 5 (.int .i64 0)=some 0∧idxD 5 (.int .i64 1)=some 1∧idxD 5 (.int .i64 2)=some 2∧idxD 5 (.int .i64 3)=some 3∧idxD 5 (.int .i64 4)=some 4∧wrapD .i64 1=1∧wrapD .i64 2=2∧wrapD .i64 3=3∧wrapD .i64 4=4∧wrapD .i64 5=5:=⟨rfl,rfl,rfl,rfl,rfl,rfl,rfl,rfl,rfl,rfl⟩
theorem k6 (n:Nat) (w:List UInt8):cl n 6 [.str w]=some (foldD w,true):=by
 rw [cl_run (A:=A6) rfl n _ rfl,show A6.body=B6 from rfl]
 unfold B6 foldD
 have d1:([115,117,109]:List UInt8)=w1:=rfl
 have d2:([99,111,117,110,116]:List UInt8)=w2:=rfl
 have d3:([108,101,97,115,116]:List UInt8)=w3:=rfl
 have d4:([109,111,115,116]:List UInt8)=w4:=rfl
 rw [d1,d2,d3,d4]
 generalize w1=u1
 generalize w2=u2
 generalize w3=u3
 generalize w4=u4
 have htk:∀ a b c d e:D,takeAt [a,b,c,d,e] 0 (some 5)=some (.agg [a,b,c,d,e]):=fun _ _ _ _ _=>rfl
 by_cases h1:u1=w
 ·rw [if_pos h1]
  simp only [z2,seval,htk,zun,zun6,ix5,Nat.mul_one,Int.reduceLT,Int.reduceAdd,decide_eq_true h1,nb,A6]; rfl
 rw [if_neg h1]
 by_cases h2:u2=w
 ·rw [if_pos h2]
  simp only [z2,seval,htk,zun,zun6,ix5,Nat.mul_one,Int.reduceLT,Int.reduceAdd,decide_eq_false h1,decide_eq_true h2,nb,A6]; rfl
 rw [if_neg h2]
 by_cases h3:u3=w
 ·rw [if_pos h3]
  simp only [z2,seval,htk,zun,zun6,ix5,Nat.mul_one,Int.reduceLT,Int.reduceAdd,decide_eq_false h1,decide_eq_false h2,decide_eq_true h3,nb,A6]; rfl
 rw [if_neg h3]
 by_cases h4:u4=w
 ·rw [if_pos h4]
  simp only [z2,seval,htk,zun,zun6,ix5,Nat.mul_one,Int.reduceLT,Int.reduceAdd,decide_eq_false h1,decide_eq_false h2,decide_eq_false h3,decide_eq_true h4,nb,A6]; rfl
 ·rw [if_neg h4]
  simp only [z2,seval,htk,zun,zun6,ix5,Nat.mul_one,Int.reduceLT,Int.reduceAdd,decide_eq_false h1,decide_eq_false h2,decide_eq_false h3,decide_eq_false h4,nb,A6]; rfl
theorem k7 (n:Nat) (w:List UInt8):cl n 7 [.str w]=some (foldD w,true):=by
 rw [cl_run (A:=A7) rfl n _ rfl,show A7.body=B7 from rfl]
 unfold B7 foldD
 have d1:([115,117,109]:List UInt8)=w1:=rfl
 have d2:([99,111,117,110,116]:List UInt8)=w2:=rfl
 have d3:([108,101,97,115,116]:List UInt8)=w3:=rfl
 have d4:([109,111,115,116]:List UInt8)=w4:=rfl
 rw [d1,d2,d3,d4]
 generalize w1=u1
 generalize w2=u2
 generalize w3=u3
 generalize w4=u4
 have htk:∀ a b c d e:D,takeAt [a,b,c,d,e] 0 (some 5)=some (.agg [a,b,c,d,e]):=fun _ _ _ _ _=>rfl
 by_cases h1:u1=w
 ·rw [if_pos h1]
  simp only [z2,seval,htk,zun,zun6,ix5,Nat.mul_one,Int.reduceLT,Int.reduceAdd,decide_eq_true h1,nb,A7]; rfl
 rw [if_neg h1]
 by_cases h2:u2=w
 ·rw [if_pos h2]
  simp only [z2,seval,htk,zun,zun6,ix5,Nat.mul_one,Int.reduceLT,Int.reduceAdd,decide_eq_false h1,decide_eq_true h2,nb,A7]; rfl
 rw [if_neg h2]
 by_cases h3:u3=w
 ·rw [if_pos h3]
  simp only [z2,seval,htk,zun,zun6,ix5,Nat.mul_one,Int.reduceLT,Int.reduceAdd,decide_eq_false h1,decide_eq_false h2,decide_eq_true h3,nb,A7]; rfl
 rw [if_neg h3]
 by_cases h4:u4=w
 ·rw [if_pos h4]
  simp only [z2,seval,htk,zun,zun6,ix5,Nat.mul_one,Int.reduceLT,Int.reduceAdd,decide_eq_false h1,decide_eq_false h2,decide_eq_false h3,decide_eq_true h4,nb,A7]; rfl
 ·rw [if_neg h4]
  simp only [z2,seval,htk,zun,zun6,ix5,Nat.mul_one,Int.reduceLT,Int.reduceAdd,decide_eq_false h1,decide_eq_false h2,decide_eq_false h3,decide_eq_false h4,nb,A7]; rfl
end
end Zv
namespace Zv
open Go Ab
noncomputable section
def T9:AC:=(s (s (r [c 6 (i 0)]) (.block 4 (.loop (s (s (r [m 59 6,f 60 5 1,l 61 60,u 62 (.len false (.t 61)),b 63 .lss 59 62]) (.cond (.t 63) .skip (.exit 4))) (s (.block 6 (s (r [f 66 5 1,l 67 66,m 68 6,u 69 (.iaS 3 (.t 67) (.t 68)),u 70 (.ld (some 3) (.t 69)),u 7 (.new 70 (.c (.agg [(i 0),(i 0),(i 0)]))),w (.st 3 (.t 7) (.t 70))]) (s (r [u 71 (.ld (some 2) (.t 4)),f 72 0 7,l 73 72,u 74 (.call 21 [(.t 71),(.t 73)]),u 75 (.un .not (.t 74)),m 76 75,n 77 76 (.ld (some 2) (.t 4)),n 78 76 (.fa 1 (.t 7)),n 79 76 (.ld none (.t 78)),n 80 76 (.call 21 [(.t 77),(.t 79)]),n 81 76 (.un .not (.t 80)),u 82 (.pick (.t 76) (.c (.bool true)) (.t 81)),m 83 82,n 84 83 (.fa 2 (.t 7)),n 85 83 (.ld none (.t 84)),n 86 83 (.bin .lss (.t 85) (.c (i 2))),u 87 (.pick (.t 83) (.c (.bool true)) (.t 86)),m 88 87,n 89 88 (.fa 2 (.t 7)),n 90 88 (.ld none (.t 89)),n 91 88 (.bin .gtr (.t 90) (.c (i 400))),u 92 (.pick (.t 88) (.c (.bool true)) (.t 91))]) (.cond (.t 92) (s (r [c 2 (i 7)]) .ret) .skip)))) (r [m 64 6,d 65 .add 64 (i 1),m 6 65])))))) (s (r [c 2 (i 0)]) .ret))
def W9:AC:=(s (s (r [c 5 (i 0)]) (.block 0 (.loop (s (s (r [m 43 5,f 44 4 1,l 45 44,u 46 (.len false (.t 45)),b 47 .lss 43 46]) (.cond (.t 47) .skip (.exit 0))) (s (.block 2 (s (.reg (some [(0,0),(1,0),(2,0),(3,0),(4,0),(5,0),(6,0),(7,0),(8,0)]) [u 50 (.ld (some 2) (.t 4)),f 51 4 1,l 52 51,m 53 5,u 54 (.iaS 2 (.t 52) (.t 53)),f 55 1 54,l 56 55,u 57 (.call 21 [(.t 50),(.t 56)]),u 58 (.un .not (.t 57))]) (.cond (.t 58) (s (r [c 2 (i 7)]) .ret) .skip))) (r [m 48 5,d 49 .add 48 (i 1),m 5 49])))))) T9)
theorem B9_eq:B9=(s (r [u 1 (.new 34 (.t 0)),c 2 (i 0)]) (s (r [f 8 0 1,u 9 (.ld (some 4) (.t 8)),u 10 (.call 20 [(.t 9)]),m 3 10]) (s (s (r [m 11 3,d 12 .eql 11 (i 0),m 13 12,y 14 13 (.fa 4 (.t 1)),y 15 13 (.ld none (.t 14)),y 16 13 (.len false (.t 15)),y 17 13 (.bin .gtr (.t 16) (.c (i 16))),my 18 17 13,n 19 18 (.fa 5 (.t 1)),n 20 18 (.ld none (.t 19)),n 21 18 (.len false (.t 20)),n 22 18 (.bin .gtr (.t 21) (.c (i 64))),y 23 13 (.pick (.t 18) (.c (.bool true)) (.t 22)),u 24 (.pick (.t 13) (.t 23) (.c (.bool false)))]) (.cond (.t 24) (r [c 3 (i 3)]) .skip)) (s (s (r [m 25 3,d 26 .neq 25 (i 0)]) (.cond (.t 26) (s (r [m 27 3,m 2 27]) .ret) .skip)) (s (r [f 28 0 1,f 29 0 28,u 30 (.ld (some 2) (.t 29)),u 4 (.new 26 (.c (.agg [.nils,.nils]))),w (.st 2 (.t 4) (.t 30))]) (s (s (r [u 31 (.ld (some 2) (.t 4)),f 32 6 1,l 33 32,u 34 (.call 21 [(.t 31),(.t 33)]),u 35 (.un .not (.t 34)),m 36 35,n 37 36 (.ld (some 2) (.t 4)),n 38 36 (.fa 7 (.t 1)),n 39 36 (.ld none (.t 38)),n 40 36 (.call 21 [(.t 37),(.t 39)]),n 41 36 (.un .not (.t 40)),u 42 (.pick (.t 36) (.c (.bool true)) (.t 41))]) (.cond (.t 42) (s (r [c 2 (i 7)]) .ret) .skip)) W9)))))):=rfl
def T8:AC:=(s (s (r [f 43 5 1,l 44 43,u 45 (.len false (.t 44)),c 46 (i 0)]) (.block 4 (.loop (s (r [b 47 .lss 46 45]) (s (.cond (.t 47) .skip (.exit 4)) (s (.block 6 (s (r [u 48 (.iaS 3 (.t 44) (.t 46)),u 49 (.ld (some 3) (.t 48)),u 8 (.new 70 (.c (.agg [(i 0),(i 0),(i 0)]))),w (.st 3 (.t 8) (.t 49))]) (s (r [m 50 4,f 51 0 8,l 52 51,f 53 1 8,l 54 53,u 55 (.bsl 2 1 [(i 0),(i 0)] [(0,1,(.t 52)),(1,1,(.t 54))]),u 56 (.app 1 8 4 (.t 50) (.t 55)),m 4 56]) (s (r [f 57 2 8,l 58 57,d 59 .lss 58 (i 2),m 60 59,n 61 60 (.fa 2 (.t 8)),n 62 60 (.ld none (.t 61)),n 63 60 (.bin .gtr (.t 62) (.c (i 400))),u 64 (.pick (.t 60) (.c (.bool true)) (.t 63))]) (.cond (.t 64) (s (r [c 2 (i 7)]) .ret) .skip))))) (r [d 65 .add 46 (i 1),m 46 65]))))))) (s (s (r [m 66 4,u 67 (.mkfn (.func 19) [] [(.t 1)]),u 68 (.call 18 [(.t 66),(.t 67)])]) (.cond (.t 68) (s (r [c 2 (i 7)]) .ret) .skip)) (s (r [c 2 (i 0)]) .ret)))
def W8:AC:=(s (s (r [f 30 4 1,l 31 30,u 32 (.len false (.t 31)),c 33 (i 0)]) (.block 0 (.loop (s (r [b 34 .lss 33 32]) (s (.cond (.t 34) .skip (.exit 0)) (s (.block 2 (s (r [u 35 (.iaS 2 (.t 31) (.t 33)),u 36 (.ld (some 2) (.t 35)),u 6 (.new 46 (.c (.agg [(.str []),(i 0)]))),w (.st 2 (.t 6) (.t 36))]) (r [m 37 4,f 38 1 6,l 39 38,u 40 (.bsl 1 1 [(i 0)] [(0,1,(.t 39))]),u 41 (.app 1 8 4 (.t 37) (.t 40)),m 4 41]))) (r [d 42 .add 33 (i 1),m 33 42]))))))) T8)
def V8c:AC:=(s (r [f 25 6 1,l 26 25,f 27 7 1,l 28 27,u 29 (.bsl 2 1 [(i 0),(i 0)] [(0,1,(.t 26)),(1,1,(.t 28))]),m 4 29]) W8)
theorem B8_eq:B8=(s (r [u 1 (.new 34 (.t 0)),c 2 (i 0)]) (s (s (r [f 9 0 1,u 10 (.ld (some 4) (.t 9)),u 11 (.call 17 [(.t 10)]),m 3 11]) (s (r [m 12 3,d 13 .neq 12 (i 0)]) (.cond (.t 13) (s (r [m 14 3,m 2 14]) .ret) .skip))) (s (s (r [f 15 4 1,l 16 15,u 17 (.len false (.t 16)),d 18 .gtr 17 (i 16),m 19 18,n 20 19 (.fa 5 (.t 1)),n 21 19 (.ld none (.t 20)),n 22 19 (.len false (.t 21)),n 23 19 (.bin .gtr (.t 22) (.c (i 64))),u 24 (.pick (.t 19) (.c (.bool true)) (.t 23))]) (.cond (.t 24) (s (r [c 2 (i 3)]) .ret) .skip)) V8c))):=rfl
structure PlOk (cs:List (List UInt8 × Int)) (rs:List (Int × Int × Int)) (ch ru:D):Prop where
 c:Sl 2 chC cs ch
 r:Sl 3 ruC rs ru
 cl:cs.length<9223372036854775807
 rl:rs.length<9223372036854775807
def Out9 (n:Nat) (r:R) (e:Int):Prop:=pout (zbody (dfn n MM) A9 r)=some (.int .i64 e,true)
theorem out9 {n:Nat} {t:Tm} {s:St} {c:Nat} {e:Int} (h:tget t 2 = .int .i64 e):Out9 n (.ok .ret ⟨t,s,c,[],none⟩) e:=by
 unfold Out9; simp only [z2,seval,A9,h]; rfl
structure I9 (d e:D) (r:List D) (t:Tm) (s:St) (c:Nat):Prop where
 s0:sget s 0=some (.fix 34 (d::e::r))
 s1:sget s 1=some (.fix 26 [d,e])
 hc:2≤c
 q1:tget t 1 = .ptr 0 0
 q4:tget t 4 = .ptr 1 0
theorem T9_ok (n:Nat) {ss:List (List UInt8)} {d e v f ch ru:D} {pc ec:Int} {cs:List (List UInt8 × Int)} {rs:List (Int × Int × Int)} (hd:Sl 1 strC ss d) (hen:isAg e=false) (hef:∀ k s,frz false (k+1) s e=some e) (hP:PlOk cs rs ch ru) {t:Tm} {s:St} {c:Nat} (hI:I9 d e [v,f,ch,ru,.int .i64 pc,.int .i64 ec] t s c) :
  Out9 (n+1) (zC T9 (cxn (n+1)) (fn (n+1) 4096) KK ⟨t,s,c,[],none⟩) (if rs.all (ruB ss.length)=true then 0 else 7):=by
 simp only [T9,Ab.abq]
 simp only [z2,seval]
 generalize hz:zloop KK _ _=rl
 refine zfor rl hz rs.length (KK_lt hP.rl) hP.rl (fun i t s c=>I9 d e [v,f,ch,ru,.int .i64 pc,.int .i64 ec] t s c∧∀ j,j<i→∀ h:j<rs.length,ruB ss.length rs[j]=true) (by simp [ex_val]) ⟨⟨hI.s0,hI.s1,hI.hc,by simp [ex_val,hI.q1],by simp [ex_val,hI.q4]⟩,nofun⟩ ?_
 clear hI hz
 rintro i t s c hi ⟨hI,hn⟩ q6
 have htk:takeAt [d,e] 0 (some 2)=some (.agg [d,e]):=rfl
 have htk3:∀ a b c:D,takeAt [a,b,c] 0 (some 3)=some (.agg [a,b,c]):=fun _ _ _=>rfl
 by_cases hlt:i<rs.length
 ·have hrow:=hP.r.row hlt
  have l1:=k21 n hd hen rs[i].1
  have l2:=k21 n hd hen rs[i].2.1
  have hc:=hI.hc
  have f0:(0=c)=False:=eq_false (by omega)
  have f1:(1=c)=False:=eq_false (by omega)
  have hbad:ruB ss.length rs[i]=false→¬ rs.all (ruB ss.length)=true:=fun hb h=>by
   have:=List.all_eq_true.1 h _ (List.getElem_mem hlt)
   rw [hb] at this; cases this
  have hu:ruB ss.length rs[i]=((labB ss.length rs[i].1&&labB ss.length rs[i].2.1)&&(decide (2≤rs[i].2.2)&&decide (rs[i].2.2≤400))):=rfl
  cases b1:labB ss.length rs[i].1
  ·rw [b1] at l1
   rw [if_neg (hbad (by rw [hu,b1]; rfl))]
   simp only [z2,seval,hI.q1,hI.q4,q6,hI.s0,hI.s1,f0,f1,hP.r.len,lt_dec hlt,hP.r.ia hlt,hrow,ruC,htk,htk3,fn_pure (f:=21) rfl,ex_call,hd.fz,hef,l1,nb]
   exact out9 (by simp [ex_val])
  cases b2:labB ss.length rs[i].2.1
  ·rw [b1] at l1; rw [b2] at l2
   rw [if_neg (hbad (by rw [hu,b1,b2]; rfl))]
   simp only [z2,seval,hI.q1,hI.q4,q6,hI.s0,hI.s1,f0,f1,hP.r.len,lt_dec hlt,hP.r.ia hlt,hrow,ruC,htk,htk3,fn_pure (f:=21) rfl,ex_call,hd.fz,hef,l1,l2,nb]
   exact out9 (by simp [ex_val])
  rw [b1] at l1; rw [b2] at l2
  by_cases h2:rs[i].2.2<2
  ·rw [if_neg (hbad (by rw [hu,b1,b2,decide_eq_false (show ¬ 2≤rs[i].2.2 by omega)]; rfl))]
   simp only [z2,seval,hI.q1,hI.q4,q6,hI.s0,hI.s1,f0,f1,hP.r.len,lt_dec hlt,hP.r.ia hlt,hrow,ruC,htk,htk3,fn_pure (f:=21) rfl,ex_call,hd.fz,hef,l1,l2,decide_eq_true h2,nb]
   exact out9 (by simp [ex_val])
  by_cases h4:400<rs[i].2.2
  ·rw [if_neg (hbad (by rw [hu,b1,b2,decide_eq_true (show 2≤rs[i].2.2 by omega),decide_eq_false (show ¬ rs[i].2.2≤400 by omega)]; rfl))]
   simp only [z2,seval,hI.q1,hI.q4,q6,hI.s0,hI.s1,f0,f1,hP.r.len,lt_dec hlt,hP.r.ia hlt,hrow,ruC,htk,htk3,fn_pure (f:=21) rfl,ex_call,hd.fz,hef,l1,l2,decide_eq_false h2,decide_eq_true h4,nb]
   exact out9 (by simp [ex_val])
  ·have hg:ruB ss.length rs[i]=true:=by rw [hu,b1,b2,decide_eq_true (show 2≤rs[i].2.2 by omega),decide_eq_true (show rs[i].2.2≤400 by omega)]; rfl
   simp only [z2,seval,hI.q1,hI.q4,q6,hI.s0,hI.s1,f0,f1,hP.r.len,lt_dec hlt,hP.r.ia hlt,hrow,ruC,htk,htk3,fn_pure (f:=21) rfl,ex_call,hd.fz,hef,l1,l2,decide_eq_false h2,decide_eq_false h4,nb]
   refine ⟨hlt,trivial,trivial,by simp [ex_val,q6],⟨?_,?_,Nat.le_succ_of_le hc,by simp [ex_val,hI.q1],by simp [ex_val,hI.q4]⟩,fun j hj h => ?_⟩
   ·simp only [ex_val,f0,if_false]; exact hI.s0
   ·simp only [ex_val,f1,if_false]; exact hI.s1
   ·rcases Nat.lt_succ_iff_lt_or_eq.1 hj with h'|rfl
    ·exact hn j h' h
    ·exact hg
 ·have e1:i=rs.length:=by omega
  subst e1
  rw [if_pos (List.all_eq_true.2 fun y hy=>by
   obtain ⟨j,hj,rfl⟩:=List.getElem_of_mem hy
   exact hn j hj hj)]
  simp only [z2,seval,hI.q1,q6,hI.s0,hP.r.len,ge_dec (Nat.le_refl rs.length)]
  exact out9 (by simp [ex_val])
theorem W9_ok (n:Nat) {ss:List (List UInt8)} {d e v f ch ru:D} {pc ec:Int} {cs:List (List UInt8 × Int)} {rs:List (Int × Int × Int)} (hd:Sl 1 strC ss d) (hen:isAg e=false) (hef:∀ k s,frz false (k+1) s e=some e) (hP:PlOk cs rs ch ru) {t:Tm} {s:St} {c:Nat} (hI:I9 d e [v,f,ch,ru,.int .i64 pc,.int .i64 ec] t s c) :
  Out9 (n+1) (zC W9 (cxn (n+1)) (fn (n+1) 4096) KK ⟨t,s,c,[],none⟩) (if (cs.all (fun c=>labB ss.length c.2)&&rs.all (ruB ss.length))=true then 0 else 7):=by
 simp only [W9,Ab.abq]
 simp only [z2,seval]
 generalize hz:zloop KK _ _=rl
 refine zfor rl hz cs.length (KK_lt hP.cl) hP.cl (fun i t s c=>I9 d e [v,f,ch,ru,.int .i64 pc,.int .i64 ec] t s c∧∀ j,j<i→∀ h:j<cs.length,labB ss.length cs[j].2=true) (by simp [ex_val]) ⟨⟨hI.s0,hI.s1,hI.hc,by simp [ex_val,hI.q1],by simp [ex_val,hI.q4]⟩,nofun⟩ ?_
 clear hI hz
 rintro i t s c hi ⟨hI,hn⟩ q5
 have htk:takeAt [d,e] 0 (some 2)=some (.agg [d,e]):=rfl
 by_cases hlt:i<cs.length
 ·have g1:=hP.c.cell hlt (show 1<2 by omega)
  have l1:=k21 n hd hen cs[i].2
  cases b1:labB ss.length cs[i].2
  ·rw [b1] at l1
   have ha:cs.all (fun c=>labB ss.length c.2)=false:=by
    rw [←Bool.not_eq_true]
    intro h
    have:=List.all_eq_true.1 h _ (List.getElem_mem hlt)
    rw [b1] at this; cases this
   rw [ha]
   simp only [z2,seval,hI.q1,hI.q4,q5,hI.s0,hI.s1,hP.c.len,lt_dec hlt,hP.c.ia hlt,g1,chC,htk,zipO,killT,AOp.kd,zop,tks,sameStep,sd_or,fn_pure (f:=21) rfl,ex_call,hd.fz,hef,l1,nb]
   exact out9 (by simp [ex_val])
  ·rw [b1] at l1
   simp only [z2,seval,hI.q1,hI.q4,q5,hI.s0,hI.s1,hP.c.len,lt_dec hlt,hP.c.ia hlt,g1,chC,htk,zipO,killT,AOp.kd,zop,tks,sameStep,sd_or,fn_pure (f:=21) rfl,ex_call,hd.fz,hef,l1,nb]
   refine ⟨hlt,trivial,trivial,by simp [ex_val,q5],⟨hI.s0,hI.s1,Nat.le_trans hI.hc (Nat.le_add_right _ _),by simp [ex_val,hI.q1],by simp [ex_val,hI.q4]⟩,fun j hj h => ?_⟩
   rcases Nat.lt_succ_iff_lt_or_eq.1 hj with h'|rfl
   ·exact hn j h' h
   ·exact b1
 ·have e1:i=cs.length:=by omega
  subst e1
  rw [show cs.all (fun c=>labB ss.length c.2)=true from List.all_eq_true.2 fun y hy=>by
   obtain ⟨j,hj,rfl⟩:=List.getElem_of_mem hy
   exact hn j hj hj,Bool.true_and]
  simp only [z2,seval,hI.q1,q5,hI.s0,hP.c.len,ge_dec (Nat.le_refl cs.length)]
  exact T9_ok n hd hen hef hP ⟨hI.s0,hI.s1,hI.hc,by simp [ex_val,hI.q1],by simp [ex_val,hI.q4]⟩
theorem k9 (n:Nat) {ss:List (List UInt8)} {d e v f ch ru:D} {pc ec:Int} {cs:List (List UInt8 × Int)} {rs:List (Int × Int × Int)} (hd:Sl 1 strC ss d) (hen:isAg e=false) (hef:∀ k s,frz false (k+1) s e=some e) (hvn:isAg v=false) (hvf:∀ k s,frz false (k+1) s v=some v) (hfn:isAg f=false) (hff:∀ k s,frz false (k+1) s f=some f) (hP:PlOk cs rs ch ru) {er:Int} (h20:cl n 20 [.agg [d,e,v,f]]=some (.int .i64 er,true)) :
  cl (n+1) 9 [.agg [d,e,v,f,ch,ru,.int .i64 pc,.int .i64 ec]]=some (.int .i64 (if er=0 then plE ss.length cs rs pc ec else er),true):=by
 rw [cl_run (A:=A9) rfl (n+1) _ rfl,show A9.body=B9 from rfl,B9_eq]
 show Out9 (n+1) _ _
 have htk:takeAt [d,e,v,f,ch,ru,.int .i64 pc,.int .i64 ec] 0 (some 4)=some (.agg [d,e,v,f]):=rfl
 have htk2:takeAt [d,e,v,f,ch,ru,.int .i64 pc,.int .i64 ec] 0 (some 2)=some (.agg [d,e]):=rfl
 have htk22:takeAt [d,e] 0 (some 2)=some (.agg [d,e]):=rfl
 by_cases h0:er=0
 ·subst h0
  rw [if_pos rfl]
  unfold plE
  by_cases h16:16<cs.length
  ·have k1:decide ((16:Int)<cs.length)=true:=dT (by omega)
   rw [if_pos (.inl h16)]
   simp only [z2,seval,hd.nag,hen,hvn,hfn,hP.c.nag,hP.r.nag,htk,htk2,fn_pure (f:=20) rfl,ex_call,hd.fz,hef,hvf,hff,h20,hP.c.len,hP.r.len,k1,Int.reduceEq,nb]
   exact out9 (by simp [ex_val])
  have k1:decide ((16:Int)<cs.length)=false:=dF (by omega)
  by_cases h64:64<rs.length
  ·have k2:decide ((64:Int)<rs.length)=true:=dT (by omega)
   rw [if_pos (.inr h64)]
   simp only [z2,seval,hd.nag,hen,hvn,hfn,hP.c.nag,hP.r.nag,htk,htk2,fn_pure (f:=20) rfl,ex_call,hd.fz,hef,hvf,hff,h20,hP.c.len,hP.r.len,k1,k2,Int.reduceEq,nb]
   exact out9 (by simp [ex_val])
  have k2:decide ((64:Int)<rs.length)=false:=dF (by omega)
  rw [if_neg (by omega)]
  have l1:=k21 n hd hen pc
  have l2:=k21 n hd hen ec
  cases b1:labB ss.length pc
  ·rw [b1] at l1
   simp only [z2,seval,hd.nag,hen,hvn,hfn,hP.c.nag,hP.r.nag,htk,htk2,htk22,fn_pure (f:=20) rfl,fn_pure (f:=21) rfl,ex_call,hd.fz,hef,hvf,hff,h20,hP.c.len,hP.r.len,k1,k2,l1,Int.reduceEq,nb]
   exact out9 (by simp [ex_val])
  cases b2:labB ss.length ec
  ·rw [b1] at l1; rw [b2] at l2
   simp only [z2,seval,hd.nag,hen,hvn,hfn,hP.c.nag,hP.r.nag,htk,htk2,htk22,fn_pure (f:=20) rfl,fn_pure (f:=21) rfl,ex_call,hd.fz,hef,hvf,hff,h20,hP.c.len,hP.r.len,k1,k2,l1,l2,Int.reduceEq,nb]
   exact out9 (by simp [ex_val])
  ·rw [b1] at l1; rw [b2] at l2
   rw [Bool.and_self,Bool.true_and]
   simp only [z2,seval,hd.nag,hen,hvn,hfn,hP.c.nag,hP.r.nag,htk,htk2,htk22,fn_pure (f:=20) rfl,fn_pure (f:=21) rfl,ex_call,hd.fz,hef,hvf,hff,h20,hP.c.len,hP.r.len,k1,k2,l1,l2,Int.reduceEq,nb]
   exact W9_ok (v:=v) (f:=f) (pc:=pc) (ec:=ec) n hd hen hef hP ⟨by simp [ex_val],by simp [ex_val],by decide,by simp [ex_val],by simp [ex_val]⟩
 ·rw [if_neg h0]
  simp only [z2,seval,hd.nag,hen,hvn,hfn,hP.c.nag,hP.r.nag,htk,htk2,fn_pure (f:=20) rfl,ex_call,hd.fz,hef,hvf,hff,h20,decide_eq_false h0,nb]
  exact out9 (by simp [ex_val])
end
end Zv
namespace Zv
open Go
noncomputable section
def ownN:D→Option Nat
 | .ms m _ _ _ _=>some m
 | .gs m _ _ _=>some m
 | _=>none
theorem app_keep {x:AS} {sz by' ty:Nat} {q b q':D} {y:AS} (h:appD x sz by' ty q b=some (q',y)) {nm:Nat} (hn:nm<x.c) (hq:ownN q≠some nm):sget y.s nm=sget x.s nm:=by
 unfold appD at h
 simp only [Option.bind_eq_bind,Option.bind_eq_some_iff] at h
 obtain ⟨⟨ys,n⟩,_,h⟩:=h
 have ha:∀ b,sget (x.add b).s nm=sget x.s nm:=fun b=>by show sget (sadd x.s x.c b) nm=_; rw [sget_sadd,if_neg (by omega)]
 have hs:∀ m b,some m≠some nm→sget (sset x.s m b) nm=sget x.s nm:=fun m b h=>by rw [sget_sset,if_neg (fun e=>h (by rw [e]))]
 cases q <;> simp only [cond_eq_ite] at h <;> try contradiction
 ·split at h
  ·cases h; rfl
  ·split at h
   ·cases h; exact ha _
   ·cases h
 ·split at h
  ·cases h; rfl
  ·split at h
   ·cases h; exact ha _
   ·cases h
 ·split at h
  ·split at h
   ·split at h
    ·simp only [Option.map_eq_some_iff] at h
     obtain ⟨b,_,h⟩:=h
     cases h; exact hs _ _ hq
    ·split at h
     ·cases h; exact ha _
     ·cases h
   ·cases h
  ·cases h
 ·split at h
  ·split at h
   ·cases h; rfl
   ·split at h
    ·split at h
     ·simp only [Option.map_eq_some_iff] at h
      obtain ⟨b,_,h⟩:=h
      cases h; exact hs _ _ hq
     ·split at h
      ·cases h
       show sget (sadd (sdel x.s _) x.c _) nm=_
       rw [sget_sadd,if_neg (by omega),sget_sdel,if_neg (fun e=>hq (by rw [e]; rfl))]
      ·cases h
    ·cases h
  ·cases h
theorem OwnL.ne {B:Nat} {s:St} {q:D} {L:List Int} (h:OwnL B s q L) {c:Nat} (hc:sget s c=none):ownN q≠some c:=by
 rcases h with (⟨rfl,_⟩|⟨m,_,rfl,hs,_⟩|⟨m,ty,_,rfl,hs,_⟩)|⟨m,a,b,_,rfl,hs,_⟩
 ·exact nofun
 all_goals (intro e; cases e; rw [hc] at hs; cases hs)
end
end Zv
namespace Zv
open Go
noncomputable section
def Out8 (n:Nat) (r:R) (e:Int):Prop:=pout (zbody (dfn n MM) A8 r)=some (.int .i64 e,true)
theorem out8 {n:Nat} {t:Tm} {s:St} {c:Nat} {e:Int} (h:tget t 2 = .int .i64 e):Out8 n (.ok .ret ⟨t,s,c,[],none⟩) e:=by
 unfold Out8; simp only [z2,seval,A8,h]; rfl
structure I8 (cells:List D) (L:List Int) (t:Tm) (s:St) (c:Nat):Prop where
 s0:sget s 0=some (.fix 34 cells)
 hc:1≤c
 hf:∀ m,c≤m→sget s m=none
 q1:tget t 1 = .ptr 0 0
 own:OwnL 1 s (tget t 4) L
theorem OwnL.keep {B:Nat} {s s':St} {q:D} {L:List Int} (h:OwnL B s q L) (hs:∀ m b,B≤m→sget s m=some b→sget s' m=some b):OwnL B s' q L:=by
 rcases h with h|⟨m,a,b,h1,h2,h3,h4⟩
 ·exact .inl (h.keep hs)
 ·exact .inr ⟨m,a,b,h1,h2,hs _ _ h1 h3,h4⟩
theorem kept2 {s:St} {c:Nat} (hf:∀ m,c≤m→sget s m=none) (b b':Blk):∀ m x,1≤m→sget s m=some x→sget (sset (sadd s c b) c b') m=some x:=fun m x _ h=>by
 have hne:m≠c:=fun e=>by rw [e,hf c (Nat.le_refl _)] at h; cases h
 rw [sget_sset,if_neg hne,sget_sadd,if_neg hne]; exact h
theorem T8_ok (n:Nat) {ss:List (List UInt8)} {d e v f ch ru:D} {pc ec:Int} {cs:List (List UInt8 × Int)} {rs:List (Int × Int × Int)} (hd:Sl 1 strC ss d) (hP:PlOk cs rs ch ru) (hrl:rs.length≤64) {L0:List Int} (hL0:L0.length≤20) {t:Tm} {s:St} {c:Nat} (hI:I8 [d,e,v,f,ch,ru,.int .i64 pc,.int .i64 ec] L0 t s c) :
  Out8 (n+1) (zC T8 (cxn (n+1)) (fn (n+1) 4096) KK ⟨t,s,c,[],none⟩) (if (L0.all (labB ss.length)&&rs.all (ruB ss.length))=true then 0 else 7):=by
 simp only [T8,Ab.abq]
 simp only [z2,seval,hI.q1,hI.s0,hP.r.len]
 generalize hz:zloop KK _ _=rl
 let RL:Nat→List Int:=fun i=>L0++((rs.take i).map fun r=>[r.1,r.2.1]).flatten
 have RL_len:∀ i,i≤rs.length→(RL i).length=L0.length+2*i:=fun i hi=>by
  show (L0++((rs.take i).map fun r=>[r.1,r.2.1]).flatten).length=_
  have:∀ l:List (Int × Int × Int),((l.map fun r=>[r.1,r.2.1]).flatten).length=2*l.length:=fun l=>by
   induction l with
   | nil=>rfl
   | cons a l ih=>simp only [List.map_cons,List.flatten_cons,List.length_append,ih,List.length_cons,List.length_nil]; omega
  rw [List.length_append,this,List.length_take,Nat.min_eq_left hi]
 have RL_succ:∀ i (h:i<rs.length),RL (i+1)=RL i++[rs[i].1,rs[i].2.1]:=fun i h=>by
  show L0++((rs.take (i+1)).map fun r=>[r.1,r.2.1]).flatten=(L0++((rs.take i).map fun r=>[r.1,r.2.1]).flatten)++_
  rw [List.take_succ_eq_append_getElem h,List.map_append,List.flatten_append,List.append_assoc]; simp
 refine zrange rl hz rs.length (KK_lt hP.rl) hP.rl (fun i t s c=>I8 [d,e,v,f,ch,ru,.int .i64 pc,.int .i64 ec] (RL i) t s c∧tget t 44=ru∧∀ j,j<i→∀ h:j<rs.length,2≤rs[j].2.2∧rs[j].2.2≤400) (by decide) (by simp [ex_val]) (by simp [ex_val])
  ⟨⟨hI.s0,hI.hc,hI.hf,by simp [ex_val,hI.q1],by simp only [ex_val]; show OwnL 1 s _ (L0++[]); rw [List.append_nil]; exact hI.own⟩,by simp [ex_val],nofun⟩ ?_ ?_
 ·clear hI hz
  rintro i t s c hlt ⟨hI,q44,hn⟩ hti htn
  have hrow:=hP.r.row hlt
  have hc:=hI.hc
  have f0:(0=c)=False:=eq_false (by omega)
  have htk3:∀ a b c:D,takeAt [a,b,c] 0 (some 3)=some (.agg [a,b,c]):=fun _ _ _=>rfl
  have hO:=hI.own.keep (kept2 hI.hf (.fix 70 [.int .i64 0,.int .i64 0,.int .i64 0]) (.fix 70 [.int .i64 rs[i].1,.int .i64 rs[i].2.1,.int .i64 rs[i].2.2]))
  have hlen:=RL_len i (by omega)
  have hbad:¬ (2≤rs[i].2.2∧rs[i].2.2≤400)→(L0.all (labB ss.length)&&rs.all (ruB ss.length))=false:=fun hb=>by
   have:rs.all (ruB ss.length)=false:=by
    rw [←Bool.not_eq_true]
    intro h
    have:=List.all_eq_true.1 h _ (List.getElem_mem hlt)
    simp only [ruB,Bool.and_eq_true,decide_eq_true_eq] at this
    exact hb this.2
   rw [this,Bool.and_false]
  have hs2:∀ (s:St) (m:Nat) (b:Blk) (a x:Int),sliceCells (sadd s m (.fix 0 [.int .i64 a,.int .i64 x])) 1 (.ms m 0 1 2 2)=some (cellsG intC [a,x],[a,x].length):=fun s m b a x=>by simp only [sliceCells,ex_val,↓reduceIte]; rfl
  simp only [z2,seval,hI.q1,q44,hti,htn,hI.s0,f0,hP.r.ia hlt,hrow,ruC,htk3]
  generalize hA:appD _ 1 8 4 _ _=A
  obtain ⟨q',s',c',rfl,hO',hc',hfs,hfr'⟩:=own_appL (B:=1) (l':=[rs[i].1,rs[i].2.1]) (by decide) hA (hO.keep fun m b hm hb=>by
   have hne:m≠c+1:=fun e=>by
    rw [e,sget_sset,if_neg (by omega),sget_sadd,if_neg (by omega),hI.hf _ (by omega)] at hb; cases hb
   rw [sget_sadd,if_neg hne]; exact hb) (hs2 _ _ (.fix 0 []) _ _) (by simp) (by simp only [List.length_cons,List.length_nil]; omega) (by simp only; omega) (fun m hm=>by simp only at hm ⊢; rw [sget_sadd,if_neg (by omega),sget_sset,if_neg (by omega),sget_sadd,if_neg (by omega)]; exact hI.hf m (by omega))
  have hkc:=app_keep hA (nm:=c) (by simp only; omega) (hI.own.ne (hI.hf c (Nat.le_refl _)))
  simp only [ex_val] at hkc
  rw [if_neg (by omega),if_pos trivial] at hkc
  have f0':=hfs 0 (by decide)
  simp only [ex_val,f0,if_false] at f0'
  rw [if_neg (by omega),hI.s0] at f0'
  by_cases h2:rs[i].2.2<2
  ·rw [hbad (by omega)]
   simp only [z2,seval,hkc,decide_eq_true h2,nb]
   exact out8 (by simp [ex_val])
  by_cases h4:400<rs[i].2.2
  ·rw [hbad (by omega)]
   simp only [z2,seval,hkc,decide_eq_false h2,decide_eq_true h4,nb]
   exact out8 (by simp [ex_val])
  simp only [z2,seval,hkc,decide_eq_false h2,decide_eq_false h4,nb]
  refine ⟨trivial,trivial,by simp [ex_val,hti],.inr (.inr (by simp [ex_val,htn])),nofun,nofun,⟨f0',by simp only at hc'; omega,hfr',by simp [ex_val,hI.q1],?_⟩,by simp [ex_val,q44],fun j hj h => ?_⟩
  ·simp only [ex_val]
   rw [RL_succ i hlt]
   exact hO'
  ·rcases Nat.lt_succ_iff_lt_or_eq.1 hj with h'|rfl
   ·exact hn j h' h
   ·exact ⟨by omega,by omega⟩
 ·rintro t s c ⟨hI,q44,hn⟩ hti htn
  have hlen:=RL_len rs.length (Nat.le_refl _)
  have h18:=f18 (n+1) 4093 hd hI.s0 hI.own (by omega) (c:=c)
  have hall:(RL rs.length).all (labB ss.length)=(L0.all (labB ss.length)&&rs.all (ruB ss.length)):=by
   show (L0++((rs.take rs.length).map fun r=>[r.1,r.2.1]).flatten).all _=_
   rw [List.take_length,List.all_append]
   congr 1
   have hk:∀ r∈rs,2≤r.2.2∧r.2.2≤400:=fun y hy=>by
    obtain ⟨j,hj,rfl⟩:=List.getElem_of_mem hy
    exact hn j hj hj
   clear hn hI h18 hlen RL_len RL_succ
   rw [Bool.eq_iff_iff,List.all_eq_true,List.all_eq_true]
   constructor
   ·intro h r hr
    have h1:=h r.1 (List.mem_flatten.2 ⟨_,List.mem_map.2 ⟨r,hr,rfl⟩,by simp⟩)
    have h2:=h r.2.1 (List.mem_flatten.2 ⟨_,List.mem_map.2 ⟨r,hr,rfl⟩,by simp⟩)
    have:=hk r hr
    simp only [ruB,h1,h2,Bool.true_and,Bool.and_eq_true,decide_eq_true_eq]
    exact this
   ·intro h a ha
    obtain ⟨l,hl,hal⟩:=List.mem_flatten.1 ha
    obtain ⟨r,hr,rfl⟩:=List.mem_map.1 hl
    have:=h r hr
    simp only [ruB,Bool.and_eq_true] at this
    simp only [List.mem_cons,List.not_mem_nil,or_false] at hal
    rcases hal with rfl|rfl
    ·exact this.1.1
    ·exact this.1.2
  rw [hall] at h18
  cases hb:(L0.all (labB ss.length)&&rs.all (ruB ss.length))
  ·rw [hb] at h18
   simp only [z2,seval,hI.q1,List.map_cons,List.map_nil,h18,nb]
   exact out8 (by simp [ex_val])
  ·rw [hb] at h18
   simp only [z2,seval,hI.q1,List.map_cons,List.map_nil,h18,nb]
   exact out8 (by simp [ex_val])
end
end Zv
namespace Zv
open Go
noncomputable section
theorem W8_ok (n:Nat) {ss:List (List UInt8)} {d e v f ch ru:D} {pc ec:Int} {cs:List (List UInt8 × Int)} {rs:List (Int × Int × Int)} (hd:Sl 1 strC ss d) (hP:PlOk cs rs ch ru) (hcl:cs.length≤16) (hrl:rs.length≤64) {t:Tm} {s:St} {c:Nat} (hI:I8 [d,e,v,f,ch,ru,.int .i64 pc,.int .i64 ec] [pc,ec] t s c) :
  Out8 (n+1) (zC W8 (cxn (n+1)) (fn (n+1) 4096) KK ⟨t,s,c,[],none⟩) (if ((labB ss.length pc&&labB ss.length ec)&&(cs.all (fun c=>labB ss.length c.2)&&rs.all (ruB ss.length)))=true then 0 else 7):=by
 simp only [W8,Ab.abq]
 simp only [z2,seval,hI.q1,hI.s0,hP.c.len]
 generalize hz:zloop KK _ _=rl
 have RL_succ:∀ i (h:i<cs.length),[pc,ec]++(cs.take (i+1)).map Prod.snd=([pc,ec]++(cs.take i).map Prod.snd)++[cs[i].2]:=fun i h=>by
  rw [List.take_succ_eq_append_getElem h,List.map_append,←List.append_assoc]; rfl
 refine zrange rl hz cs.length (KK_lt hP.cl) hP.cl (fun i t s c=>I8 [d,e,v,f,ch,ru,.int .i64 pc,.int .i64 ec] ([pc,ec]++(cs.take i).map Prod.snd) t s c∧tget t 31=ch) (by decide) (by simp [ex_val]) (by simp [ex_val])
  ⟨⟨hI.s0,hI.hc,hI.hf,by simp [ex_val,hI.q1],by simp only [ex_val]; exact hI.own⟩,by simp [ex_val]⟩ ?_ ?_
 ·clear hI hz
  rintro i t s c hlt ⟨hI,q31⟩ hti htn
  have hrow:=hP.c.row hlt
  have hc:=hI.hc
  have f0:(0=c)=False:=eq_false (by omega)
  have htk2:∀ a b:D,takeAt [a,b] 0 (some 2)=some (.agg [a,b]):=fun _ _=>rfl
  have hO:=hI.own.keep (kept2 hI.hf (.fix 46 [.str [],.int .i64 0]) (.fix 46 [.str cs[i].1,.int .i64 cs[i].2]))
  have hlen:([pc,ec]++(cs.take i).map Prod.snd).length≤100:=by rw [List.length_append,List.length_map,List.length_take]; simp only [List.length_cons,List.length_nil]; omega
  have hs2:∀ (s:St) (m:Nat) (a:Int),sliceCells (sadd s m (.fix 0 [.int .i64 a])) 1 (.ms m 0 1 1 1)=some (cellsG intC [a],[a].length):=fun s m a=>by simp only [sliceCells,ex_val,↓reduceIte]; rfl
  simp only [z2,seval,hI.q1,q31,hti,htn,hI.s0,f0,hP.c.ia hlt,hrow,chC,htk2]
  generalize hA:appD _ 1 8 4 _ _=A
  obtain ⟨q',s',c',rfl,hO',hc',hfs,hfr'⟩:=own_appL (B:=1) (l':=[cs[i].2]) (by decide) hA (hO.keep fun m b hm hb=>by
   have hne:m≠c+1:=fun e=>by
    rw [e,sget_sset,if_neg (by omega),sget_sadd,if_neg (by omega),hI.hf _ (by omega)] at hb; cases hb
   rw [sget_sadd,if_neg hne]; exact hb) (hs2 _ _ _) (by simp) (by simp only [List.length_cons,List.length_nil] at hlen ⊢; omega) (by simp only; omega) (fun m hm=>by simp only at hm ⊢; rw [sget_sadd,if_neg (by omega),sget_sset,if_neg (by omega),sget_sadd,if_neg (by omega)]; exact hI.hf m (by omega))
  have f0':=hfs 0 (by decide)
  simp only [ex_val,f0,if_false] at f0'
  rw [if_neg (by omega),hI.s0] at f0'
  simp only [z2,seval,nb]
  refine ⟨trivial,trivial,by simp [ex_val,hti],.inr (.inr (by simp [ex_val,htn])),nofun,nofun,⟨f0',by simp only at hc'; omega,hfr',by simp [ex_val,hI.q1],?_⟩,by simp [ex_val,q31]⟩
  simp only [ex_val]
  rw [RL_succ i hlt]
  exact hO'
 ·rintro t s c ⟨hI,q31⟩ hti htn
  rw [List.take_length] at hI
  have h:=T8_ok n hd hP hrl (L0:=[pc,ec]++cs.map Prod.snd) (by rw [List.length_append,List.length_map]; simp only [List.length_cons,List.length_nil]; omega) (t:=tput t 34 (.bool false)) (s:=s) (c:=c) ⟨hI.s0,hI.hc,hI.hf,by simp [ex_val,hI.q1],by simp only [ex_val]; exact hI.own⟩
  have e:([pc,ec]++cs.map Prod.snd).all (labB ss.length)=((labB ss.length pc&&labB ss.length ec)&&cs.all (fun c=>labB ss.length c.2)):=by
   rw [List.all_append,List.all_map]
   simp only [List.all_cons,List.all_nil,Bool.and_true]; rfl
  rw [e,Bool.and_assoc] at h
  simp only [ex_code,↓reduceIte]
  exact h
theorem k8 (n:Nat) {ss:List (List UInt8)} {d e v f ch ru:D} {pc ec:Int} {cs:List (List UInt8 × Int)} {rs:List (Int × Int × Int)} (hd:Sl 1 strC ss d) (hen:isAg e=false) (hef:∀ k s,frz false (k+1) s e=some e) (hvn:isAg v=false) (hvf:∀ k s,frz false (k+1) s v=some v) (hfn:isAg f=false) (hff:∀ k s,frz false (k+1) s f=some f) (hP:PlOk cs rs ch ru) {er:Int} (h17:cl n 17 [.agg [d,e,v,f]]=some (.int .i64 er,true)) :
  cl (n+1) 8 [.agg [d,e,v,f,ch,ru,.int .i64 pc,.int .i64 ec]]=some (.int .i64 (if er=0 then plE ss.length cs rs pc ec else er),true):=by
 rw [cl_run (A:=A8) rfl (n+1) _ rfl,show A8.body=B8 from rfl,B8_eq]
 show Out8 (n+1) _ _
 have htk:takeAt [d,e,v,f,ch,ru,.int .i64 pc,.int .i64 ec] 0 (some 4)=some (.agg [d,e,v,f]):=rfl
 by_cases h0:er=0
 ·subst h0
  rw [if_pos rfl]
  unfold plE
  by_cases h16:16<cs.length
  ·have k1:decide ((16:Int)<cs.length)=true:=dT (by omega)
   rw [if_pos (.inl h16)]
   simp only [z2,seval,hd.nag,hen,hvn,hfn,hP.c.nag,hP.r.nag,htk,fn_pure (f:=17) rfl,ex_call,hd.fz,hef,hvf,hff,h17,hP.c.len,hP.r.len,k1,Int.reduceEq,nb]
   exact out8 (by simp [ex_val])
  have k1:decide ((16:Int)<cs.length)=false:=dF (by omega)
  by_cases h64:64<rs.length
  ·have k2:decide ((64:Int)<rs.length)=true:=dT (by omega)
   rw [if_pos (.inr h64)]
   simp only [z2,seval,hd.nag,hen,hvn,hfn,hP.c.nag,hP.r.nag,htk,fn_pure (f:=17) rfl,ex_call,hd.fz,hef,hvf,hff,h17,hP.c.len,hP.r.len,k1,k2,Int.reduceEq,nb]
   exact out8 (by simp [ex_val])
  have k2:decide ((64:Int)<rs.length)=false:=dF (by omega)
  rw [if_neg (by omega)]
  simp only [V8c,Ab.abq]
  simp only [z2,seval,hd.nag,hen,hvn,hfn,hP.c.nag,hP.r.nag,htk,fn_pure (f:=17) rfl,ex_call,hd.fz,hef,hvf,hff,h17,hP.c.len,hP.r.len,k1,k2,Int.reduceEq,nb]
  refine W8_ok (e:=e) (v:=v) (f:=f) n hd hP (by omega) (by omega) ⟨by simp [ex_val],by decide,fun m hm => ?_,by simp [ex_val],.inr ⟨1,pc,ec,by decide,by simp [ex_val],by simp [ex_val],rfl⟩⟩
  simp only [ex_val,sget_st0]
  rw [if_neg (by omega),if_neg (by omega)]
 ·rw [if_neg h0]
  simp only [z2,seval,hd.nag,hen,hvn,hfn,hP.c.nag,hP.r.nag,htk,fn_pure (f:=17) rfl,ex_call,hd.fz,hef,hvf,hff,h17,decide_eq_false h0,nb]
  exact out8 (by simp [ex_val])
end
end Zv
namespace Zv
open Go Ab
noncomputable section
def Z4:AC:=(s (r [f 57 0 1,u 58 (.ld (some 4) (.t 57)),u 59 (.call 10 [(.t 58)]),m 60 59,n 61 60 (.fa 4 (.t 1)),n 62 60 (.ld none (.t 61)),n 63 60 (.len false (.t 62)),n 64 60 (.bin .gtr (.t 63) (.c (i 20))),u 65 (.pick (.t 60) (.c (.bool true)) (.t 64)),m 66 65,n 67 66 (.fa 5 (.t 1)),n 68 66 (.ld none (.t 67)),n 69 66 (.len false (.t 68)),n 70 66 (.bin .gtr (.t 69) (.c (i 70))),u 71 (.pick (.t 66) (.c (.bool true)) (.t 70)),m 2 71]) .ret)
def Y4:AC:=(s (s (r [c 4 (i 0)]) (.block 4 (.loop (s (s (r [m 38 4,f 39 4 1,l 40 39,u 41 (.len false (.t 40)),b 42 .lss 38 41,m 43 42,my 44 4 43,y 45 43 (.bin .lss (.t 44) (.c (i 30))),u 46 (.pick (.t 43) (.t 45) (.c (.bool false)))]) (.cond (.t 46) .skip (.exit 4))) (s (.block 6 (s (r [f 49 4 1,l 50 49,m 51 4,u 52 (.iaS 2 (.t 50) (.t 51)),f 53 0 52,l 54 53,u 55 (.len true (.t 54)),d 56 .gtr 55 (i 100)]) (.cond (.t 56) (s (r [c 2 (.bool true)]) .ret) .skip))) (r [m 47 4,d 48 .add 47 (i 1),m 4 48])))))) Z4)
def X4:AC:=(s (s (r [f 26 0 1,f 27 3 26,l 28 27,u 29 (.len false (.t 28)),d 30 .gtr 29 (i 3),m 31 30,y 32 31 (.fa 0 (.t 1)),y 33 31 (.fa 3 (.t 32)),y 34 31 (.ld none (.t 33)),y 35 31 (.len false (.t 34)),y 36 31 (.bin .leq (.t 35) (.c (i 16))),u 37 (.pick (.t 31) (.t 36) (.c (.bool false)))]) (.cond (.t 37) (s (r [c 2 (.bool true)]) .ret) .skip)) Y4)
theorem B4_eq:B4=(s (r [u 1 (.new 34 (.t 0)),c 2 (.bool false)]) (s (s (r [c 3 (i 0)]) (.block 0 (.loop (s (s (r [m 5 3,f 6 0 1,f 7 3 6,l 8 7,u 9 (.len false (.t 8)),b 10 .lss 5 9,m 11 10,my 12 3 11,y 13 11 (.bin .lss (.t 12) (.c (i 5))),u 14 (.pick (.t 11) (.t 13) (.c (.bool false)))]) (.cond (.t 14) .skip (.exit 0))) (s (.block 2 (s (r [f 17 0 1,f 18 3 17,l 19 18,m 20 3,u 21 (.iaS 3 (.t 19) (.t 20)),f 22 2 21,l 23 22,u 24 (.len false (.t 23)),d 25 .gtr 24 (i 12)]) (.cond (.t 25) (s (r [c 2 (.bool true)]) .ret) .skip))) (r [m 15 3,d 16 .add 15 (i 1),m 3 16])))))) X4)):=rfl
def Out4 (n:Nat) (ss:List (List UInt8)) (us:List Nat) (vs:List Vr) (fs:List Fd) (cs:List (List UInt8 × Int)) (rs:List (Int × Int × Int)) (r:R):Prop:=∃ b,pout (zbody (dfn n MM) A4 r)=some (.bool b,true)∧(b=false→NotLarge ss us vs fs∧cs.length≤20∧rs.length≤70)
section
variable {n:Nat} {ss:List (List UInt8)} {us:List Nat} {vs:List Vr} {fs:List Fd} {cs:List (List UInt8 × Int)} {rs:List (Int × Int × Int)} {t:Tm} {s:St} {c:Nat} {d e v f ch ru pc ec:D}
theorem out4 (h:tget t 2 = .bool true):Out4 n ss us vs fs cs rs (.ok .ret ⟨t,s,c,[],none⟩):=
 ⟨true,by simp only [z2,seval,A4,h]; rfl,nofun⟩
theorem Z4_ok (hd:Sl 1 strC ss d) (he:Sl 1 u8C us e) (hv:Sl 6 vrC vs v) (hf:Sl 3 fdC fs f) (hc:Sl 2 chC cs ch) (hr:Sl 3 ruC rs ru) (hfs:∀ x∈fs,FdIn x) (s0:sget s 0=some (.fix 34 [d,e,v,f,ch,ru,pc,ec])) (q1:tget t 1 = .ptr 0 0):Out4 (n+2) ss us vs fs cs rs (zC Z4 (cxn (n+2)) (fn (n+2) 4096) KK ⟨t,s,c,[],none⟩):=by
 simp only [Z4,Ab.abq]
 obtain ⟨b,h10,hb⟩:=c10 n hd he hv hf hfs
 have htk:takeAt [d,e,v,f,ch,ru,pc,ec] 0 (some 4)=some (.agg [d,e,v,f]):=rfl
 cases b
 ·by_cases h20:20<cs.length
  ·have k1:decide ((20:Int)<(cs.length:Nat))=true:=dT (by omega)
   simp only [z2,seval,s0,q1,htk,fn_pure (f:=10) rfl,ex_call,hd.fz,he.fz,hv.fz,hf.fz,h10,hc.len,k1,nb]
   exact out4 (by simp [ex_val])
  ·have k1:decide ((20:Int)<(cs.length:Nat))=false:=dF (by omega)
   by_cases h70:70<rs.length
   ·have k2:decide ((70:Int)<(rs.length:Nat))=true:=dT (by omega)
    simp only [z2,seval,s0,q1,htk,fn_pure (f:=10) rfl,ex_call,hd.fz,he.fz,hv.fz,hf.fz,h10,hc.len,hr.len,k1,k2,nb]
    exact out4 (by simp [ex_val])
   ·have k2:decide ((70:Int)<(rs.length:Nat))=false:=dF (by omega)
    simp only [z2,seval,s0,q1,htk,fn_pure (f:=10) rfl,ex_call,hd.fz,he.fz,hv.fz,hf.fz,h10,hc.len,hr.len,k1,k2,nb]
    exact ⟨false,by simp only [z2,seval,A4]; rfl,fun _=>⟨hb rfl,by omega,by omega⟩⟩
 ·simp only [z2,seval,s0,q1,htk,fn_pure (f:=10) rfl,ex_call,hd.fz,he.fz,hv.fz,hf.fz,h10,nb]
  exact out4 (by simp [ex_val])
theorem Y4_ok (hd:Sl 1 strC ss d) (he:Sl 1 u8C us e) (hv:Sl 6 vrC vs v) (hf:Sl 3 fdC fs f) (hc:Sl 2 chC cs ch) (hr:Sl 3 ruC rs ru) (hfs:∀ x∈fs,FdIn x) (s0:sget s 0=some (.fix 34 [d,e,v,f,ch,ru,pc,ec])) (q1:tget t 1 = .ptr 0 0):Out4 (n+2) ss us vs fs cs rs (zC Y4 (cxn (n+2)) (fn (n+2) 4096) KK ⟨t,s,c,[],none⟩):=by
 simp only [Y4,Ab.abq]
 simp only [z2,seval]
 generalize hz:zloop KK _ _=rl
 have hN:min cs.length 30≤30:=Nat.min_le_right _ _
 refine zfor rl hz (min cs.length 30) (KK_lt (by omega)) (by omega) (fun i t s c=>sget s 0=some (.fix 34 [d,e,v,f,ch,ru,pc,ec])∧tget t 1 = .ptr 0 0) (by simp [ex_val]) ⟨s0,by simp [ex_val,q1]⟩ ?_
 clear hz s0 q1
 rintro i t s c hi ⟨s0,q1⟩ q4
 by_cases hlt:i<cs.length
 ·by_cases h30:i<30
  ·have k1:decide ((i:Int)<30)=true:=dT (by omega)
   have g0:=hc.cell hlt (show 0<2 by omega)
   by_cases e1:100<cs[i].1.length
   ·have k2:decide ((100:Int)<(cs[i].1.length:Nat))=true:=dT (by omega)
    simp only [z2,seval,s0,q1,q4,hc.len,lt_dec hlt,k1,hc.ia hlt,g0,chC,k2,nb]
    exact out4 (by simp [ex_val])
   ·have k2:decide ((100:Int)<(cs[i].1.length:Nat))=false:=dF (by omega)
    simp only [z2,seval,s0,q1,q4,hc.len,lt_dec hlt,k1,hc.ia hlt,g0,chC,k2,nb]
    exact ⟨by omega,trivial,trivial,trivial,trivial,trivial⟩
  ·have k1:decide ((i:Int)<30)=false:=dF (by omega)
   simp only [z2,seval,s0,q1,q4,hc.len,lt_dec hlt,k1,nb]
   exact Z4_ok hd he hv hf hc hr hfs s0 (by simp [ex_val,q1])
 ·simp only [z2,seval,s0,q1,q4,hc.len,ge_dec (Nat.le_of_not_lt hlt),nb]
  exact Z4_ok hd he hv hf hc hr hfs s0 (by simp [ex_val,q1])
theorem X4_ok (hd:Sl 1 strC ss d) (he:Sl 1 u8C us e) (hv:Sl 6 vrC vs v) (hf:Sl 3 fdC fs f) (hc:Sl 2 chC cs ch) (hr:Sl 3 ruC rs ru) (hfs:∀ x∈fs,FdIn x) (s0:sget s 0=some (.fix 34 [d,e,v,f,ch,ru,pc,ec])) (q1:tget t 1 = .ptr 0 0):Out4 (n+2) ss us vs fs cs rs (zC X4 (cxn (n+2)) (fn (n+2) 4096) KK ⟨t,s,c,[],none⟩):=by
 simp only [X4,Ab.abq]
 by_cases h3:3<fs.length
 ·have k1:decide ((3:Int)<(fs.length:Nat))=true:=dT (by omega)
  by_cases h16:fs.length≤16
  ·have k2:decide (((fs.length:Nat):Int)≤16)=true:=dT (by omega)
   simp only [z2,seval,s0,q1,hf.len,k1,k2,nb]
   exact out4 (by simp [ex_val])
  ·have k2:decide (((fs.length:Nat):Int)≤16)=false:=dF (by omega)
   simp only [z2,seval,s0,q1,hf.len,k1,k2,nb]
   exact Y4_ok hd he hv hf hc hr hfs s0 (by simp [ex_val,q1])
 ·have k1:decide ((3:Int)<(fs.length:Nat))=false:=dF (by omega)
  simp only [z2,seval,s0,q1,hf.len,k1,nb]
  exact Y4_ok hd he hv hf hc hr hfs s0 (by simp [ex_val,q1])
theorem kL (n:Nat) (hd:Sl 1 strC ss d) (he:Sl 1 u8C us e) (hv:Sl 6 vrC vs v) (hf:Sl 3 fdC fs f) (hc:Sl 2 chC cs ch) (hr:Sl 3 ruC rs ru) (hfs:∀ x∈fs,FdIn x) (hpn:isAg pc=false) (hen:isAg ec=false) :
  ∃ b,cl (n+2) 4 [.agg [d,e,v,f,ch,ru,pc,ec]]=some (.bool b,true)∧(b=false→NotLarge ss us vs fs∧cs.length≤20∧rs.length≤70):=by
 rw [cl_run (A:=A4) rfl (n+2) _ rfl,show A4.body=B4 from rfl,B4_eq]
 show Out4 (n+2) ss us vs fs cs rs _
 simp only [z2,seval,hd.nag,he.nag,hv.nag,hf.nag,hc.nag,hr.nag,hpn,hen]
 generalize hz:zloop KK _ _=rl
 have hN:min fs.length 5≤5:=Nat.min_le_right _ _
 refine zfor rl hz (min fs.length 5) (KK_lt (by omega)) (by omega) (fun i t s c=>sget s 0=some (.fix 34 [d,e,v,f,ch,ru,pc,ec])∧tget t 1 = .ptr 0 0) (by simp [ex_val]) ⟨by simp [ex_val],by simp [ex_val]⟩ ?_
 clear hz
 rintro i t s c hi ⟨s0,q1⟩ q3
 by_cases hlt:i<fs.length
 ·by_cases h5:i<5
  ·have k1:decide ((i:Int)<5)=true:=dT (by omega)
   have g2:=hf.cell hlt (show 2<3 by omega)
   have hb:=(hfs _ (List.getElem_mem hlt)).b
   by_cases e1:12<fs[i].body.length
   ·have k2:decide ((12:Int)<(fs[i].body.length:Nat))=true:=dT (by omega)
    simp only [z2,seval,s0,q1,q3,hf.len,lt_dec hlt,k1,hf.ia hlt,g2,fdC,hb.len,k2,nb]
    exact out4 (by simp [ex_val])
   ·have k2:decide ((12:Int)<(fs[i].body.length:Nat))=false:=dF (by omega)
    simp only [z2,seval,s0,q1,q3,hf.len,lt_dec hlt,k1,hf.ia hlt,g2,fdC,hb.len,k2,nb]
    exact ⟨by omega,trivial,trivial,trivial,trivial,trivial⟩
  ·have k1:decide ((i:Int)<5)=false:=dF (by omega)
   simp only [z2,seval,s0,q1,q3,hf.len,lt_dec hlt,k1,nb]
   exact X4_ok hd he hv hf hc hr hfs s0 (by simp [ex_val,q1])
 ·simp only [z2,seval,s0,q1,q3,hf.len,ge_dec (Nat.le_of_not_lt hlt),nb]
  exact X4_ok hd he hv hf hc hr hfs s0 (by simp [ex_val,q1])
end
theorem kF (n:Nat) {ss:List (List UInt8)} {us:List Nat} {vs:List Vr} {fs:List Fd} {cs:List (List UInt8 × Int)} {rs:List (Int × Int × Int)} {d e v f ch ru:D} (hd:Sl 1 strC ss d) (he:Sl 1 u8C us e) (hu:Bytes8 us) (hv:Sl 6 vrC vs v) (hf:Sl 3 fdC fs f) (hc:Sl 2 chC cs ch) (hr:Sl 3 ruC rs ru) (hfs:∀ x∈fs,FdIn x) (pc ec:Int) (w:List UInt8) :
  ∃ fl,cl (n+407) 3 [.agg [d,e,v,f,ch,ru,.int .i64 pc,.int .i64 ec],.str w]=some (.bool true,fl):=by
 rw [cl_run (A:=A3) rfl (n+407) _ rfl,show A3.body=B3 from rfl]
 simp only [B3,Ab.abq]
 have htk:takeAt [d,e,v,f,ch,ru,.int .i64 pc,.int .i64 ec] 0 (some 8)=some (.agg [d,e,v,f,ch,ru,.int .i64 pc,.int .i64 ec]):=rfl
 have k12:∀ (n j:Nat) (s:St) (c:Nat),fn n (j+1) (.fn 5) [] s c = .ok (.ret (.bool true)) s c:=fun n j s c=>fn_known (f:=5) rfl rfl rfl rfl rfl n j c
 obtain ⟨b,h4,hb⟩:=kL (n+404) hd he hv hf hc hr hfs (pc := .int .i64 pc) (ec := .int .i64 ec) rfl rfl
 cases b
 case true=>
  simp only [z2,seval,hd.nag,he.nag,hv.nag,hf.nag,hc.nag,hr.nag,htk,fn_pure (f:=4) rfl,ex_call,hd.fz,he.fz,hv.fz,hf.fz,hc.fz,hr.fz,h4,k12,A3]
  exact ⟨_,rfl⟩
 obtain ⟨⟨hL,h40,h20,hvn,hfn⟩,hc20,hr70⟩:=hb rfl
 by_cases h100:100<w.length
 ·have k1:decide ((100:Int)<(w.length:Nat))=true:=dT (by omega)
  simp only [z2,seval,hd.nag,he.nag,hv.nag,hf.nag,hc.nag,hr.nag,htk,fn_pure (f:=4) rfl,ex_call,hd.fz,he.fz,hv.fz,hf.fz,hc.fz,hr.fz,h4,k1,k12,A3]
  exact ⟨_,rfl⟩
 have k1:decide ((100:Int)<(w.length:Nat))=false:=dF (by omega)
 have hs:Small ss:=by
  unfold LargeB at hL
  simp only [Bool.or_eq_false_iff,decide_eq_false_iff_not,List.any_eq_false,List.mem_range] at hL
  obtain ⟨h1,h2,_⟩:=hL
  intro s hs
  obtain ⟨i,hi,rfl⟩:=List.mem_iff_getElem.1 hs
  have:=h1 i (by omega)
  rw [lgetD hi,decide_eq_true_eq] at this
  omega
 have hE:EnvOk vs fs v f:=⟨hv,hf,by omega,by omega,fun x hx=>by have:=hvn x hx; omega,fun x hx=>by
  have h:=hfn x hx
  have hi:=hfs x hx
  have hb:=h.b
  exact ⟨by have:=h.nm; omega,hi.p,hi.b,fun s hs=>by have:=h.pn s hs; omega,by have:=h.pl; omega,by have:=hb.1; omega,fun hl y hy=>by have:=hb.2 hl y hy; omega⟩⟩
 have hP:PlOk cs rs ch ru:=⟨hc,hr,by omega,by omega⟩
 obtain ⟨er,h17,h20⟩:∃ er:Int,(∀ m,cl (m+12) 17 [.agg [d,e,v,f]]=some (.int .i64 er,true))∧∀ m,cl (m+405) 20 [.agg [d,e,v,f]]=some (.int .i64 er,true):=by
  rcases CHK_cases ss us with ⟨hC,_⟩|⟨x,er,hC,hne⟩
  ·exact ⟨_,fun m=>c22 m hd he hu hs hC hE,fun m=>c23 m hd he hu hs hC hE⟩
  ·exact ⟨er,fun m=>c22e m hd he hu hs hC hne hE,fun m=>c23e m hd he hu hs hC hne hE⟩
 have h8:=k8 (n+405) (pc:=pc) (ec:=ec) hd he.nag he.fz hv.nag hv.fz hf.nag hf.fz hP (h17 (n+393))
 have h9:=k9 (n+405) (pc:=pc) (ec:=ec) hd he.nag he.fz hv.nag hv.fz hf.nag hf.fz hP (h20 n)
 have h6:=k6 (n+406) w
 have h7:=k7 (n+406) w
 obtain ⟨x,y,hfd⟩:∃ x y:Int,foldD w = .tup [.int .i64 x,.int .i64 y]:=by
  unfold foldD
  split
  ·exact ⟨_,_,rfl⟩
  split
  ·exact ⟨_,_,rfl⟩
  split
  ·exact ⟨_,_,rfl⟩
  split
  ·exact ⟨_,_,rfl⟩
  ·exact ⟨_,_,rfl⟩
 rw [hfd] at h6 h7
 simp only [z2,seval,hd.nag,he.nag,hv.nag,hf.nag,hc.nag,hr.nag,htk,fn_pure (f:=4) rfl,fn_pure (f:=6) rfl,fn_pure (f:=7) rfl,fn_pure (f:=8) rfl,fn_pure (f:=9) rfl,ex_call,hd.fz,he.fz,hv.fz,hf.fz,hc.fz,hr.fz,h4,h6,h7,h8,h9,k1,k12,zipO,killT,AOp.kd,zop,tks,sameStep,sd_or,nb,A3]
 exact ⟨_,rfl⟩
end
end Zv
