/- What functions come to: do these bytes stand for a rune? Conditions: none. -/
import Derived.Test.YtoefcncofakjkaaGreatDoorNB
import Derived.Test.YtoefcncofakjkaaGreatDoorLA
import Derived.Test.YtoefcncofakjkaaGreatDoorCA
import Derived.Lib.TrimUEq
import Derived.Lib.ValidU
import Derived.Lib.RuneCount
import Derived.Lib.MapLaws
import Derived.Test.YtoefcncofakjkaaGreatDoorME
set_option linter.unusedVariables false
set_option linter.unusedSimpArgs false
set_option maxRecDepth 100000
namespace Zv
open Go
noncomputable section
theorem c281 (n:Nat) {us:List Nat} {d:D} (hd:Sl 1 u8C us d) (hu:Bytes8 us) (h1:1≤us.length) (h4:us.length≤4):cl n 322 [d]=some (.int .i64 (numL us),true):=by
 rcases hd.2 with ⟨rfl,h⟩|⟨ex,rfl⟩
 ·rw [List.map_eq_nil_iff] at h; subst h; simp at h1
 ·match us,hu,h1,h4 with
  | [a],hu,_,_=>exact c281_1 n (hu a (by simp))
  | [a,b],hu,_,_=>exact c281_2 n (hu a (by simp)) (hu b (by simp))
  | [a,b,c],hu,_,_=>exact c281_3 n (hu a (by simp)) (hu b (by simp)) (hu c (by simp))
  | [a,b,c,e],hu,_,_=>exact c281_4 n (hu a (by simp)) (hu b (by simp)) (hu c (by simp)) (hu e (by simp))
def bsN (us:List Nat):List UInt8:=us.map UInt8.ofNat
def encB (r:Int):List UInt8:=(encL r).map fun x=>UInt8.ofNat x.toNat
def standD (us:List Nat):D:=bif isR (numL us) then .tup [.int .i64 (numL us),.bool (decide (bsN us=encB (numL us)))] else .tup [.int .i64 0,.bool false]
theorem u8flat:∀ us:List Nat,(us.map u8C).flatten=u8L (us.map fun (u:Nat)=>(u:Int))
 | []=>rfl
 | a::l=>by simp only [List.map_cons,List.flatten_cons,u8flat l,u8C,u8L]; rfl
theorem byteM:∀ l:List Int,(u8L l).mapM byteOfD=some (l.map fun x=>UInt8.ofNat x.toNat)
 | []=>rfl
 | a::l=>by
  have:=byteM l
  unfold u8L at this ⊢
  simp only [List.map_cons,List.mapM_cons,this,byteOfD]; rfl
theorem scB (s:St) (ex:Bool) (l:List Int):sliceCells s 1 (.sl ex l.length (u8L l))=some (u8L l,l.length):=by
 have h:(u8L l).length=l.length:=by rw [u8L,List.length_map]
 simp only [sliceCells,Nat.mul_one,h,Nat.ble_eq_true_of_le (Nat.le_refl _),cond_true]
 rw [←h,List.take_length]
theorem c233 (n:Nat) {us:List Nat} {d:D} (hd:Sl 1 u8C us d) (hu:Bytes8 us) (h1:1≤us.length) (h4:us.length≤4):cl (n+2) 289 [d]=some (standD us,true):=by
 rw [cl_run (A:=A289) rfl (n+2) _ rfl,show A289.body=B289 from rfl]
 simp only [B289,Ab.abq]
 have h281:=c281 (n+1) hd hu h1 h4
 obtain ⟨ex,hde⟩:∃ ex,d = .sl ex (us.map fun (u:Nat)=>(u:Int)).length (u8L (us.map fun (u:Nat)=>(u:Int))):=by
  rcases hd.2 with ⟨rfl,h⟩|⟨ex,rfl⟩
  ·rw [List.map_eq_nil_iff] at h; subst h; simp at h1
  ·exact ⟨ex,by rw [u8flat,List.length_map,List.length_map]⟩
 cases hr:isR (numL us)
 ·simp only [z2,↓reduceIte,Nat.reduceEqDiff,Nat.reduceAdd,Nat.reduceLeDiff,reduceCtorEq,hd.nag,fn_pure (f:=322) rfl,fn_pure (f:=323) rfl,ex_call,hd.fz,h281,c282,hr,A289]
  rw [standD,hr]; rfl
 ·subst hde
  have hbs:(us.map fun (u:Nat)=>(u:Int)).map (fun x=>UInt8.ofNat x.toNat)=bsN us:=by
   rw [List.map_map,bsN]; rfl
  simp only [z2,↓reduceIte,Nat.reduceEqDiff,Nat.reduceAdd,Nat.reduceLeDiff,reduceCtorEq,hd.nag,fn_pure (f:=322) rfl,fn_pure (f:=323) rfl,fn_pure (f:=324) rfl,ex_call,hd.fz,h281,c282,c283 n hr,hr,zipO,killT,zAny_w,zAny_g,AOp.kd,step_mv,step_pick,step_fa,step_ld,step_bin,step_un,step_cvS,st_cvS,scB,byteM,hbs,Option.bind_some,Option.bind_eq_bind,List.take_zero,List.all_nil,A289]
  rw [standD,hr]; rfl
end
end Zv
namespace Zv
open Go
noncomputable section
def cellsG {α:Type} (e:α→List D) (l:List α):List D:=(l.map e).flatten
theorem cellsG_app {α:Type} (e:α→List D) (l l':List α):cellsG e (l++l')=cellsG e l++cellsG e l':=by
 unfold cellsG; rw [List.map_append,List.flatten_append]
structure EncG {α:Type} (w:Nat) (e:α→List D):Prop where
 len:∀ a,(e a).length=w
 pos:0<w
 nag:∀ a,(e a).any isAg=false
 frz:∀ a p k s,(e a).mapM (Zv.frz p (k+1) s)=some (e a)
theorem EncG.cells_len {α:Type} {w:Nat} {e:α→List D} (h:EncG w e):∀ l:List α,(cellsG e l).length=l.length*w
 | []=>by simp [cellsG]
 | a::l=>by
  have:=h.cells_len l
  unfold cellsG at this ⊢
  rw [List.map_cons,List.flatten_cons,List.length_append,h.len,this,List.length_cons,Nat.add_mul]; omega
theorem EncG.cells_nag {α:Type} {w:Nat} {e:α→List D} (h:EncG w e):∀ l:List α,(cellsG e l).any isAg=false
 | []=>rfl
 | a::l=>by
  have:=h.cells_nag l
  unfold cellsG at this ⊢
  rw [List.map_cons,List.flatten_cons,List.any_append,h.nag,this]; rfl
theorem EncG.cells_frz {α:Type} {w:Nat} {e:α→List D} (h:EncG w e) (p:Bool) (k:Nat) (s:St):∀ l:List α,(cellsG e l).mapM (Zv.frz p (k+1) s)=some (cellsG e l)
 | []=>rfl
 | a::l=>by
  have:=h.cells_frz p k s l
  unfold cellsG at this ⊢
  rw [List.map_cons,List.flatten_cons,List.mapM_append,h.frz,this]; rfl
def OwnG {α:Type} (w:Nat) (e:α→List D) (B:Nat) (s:St) (q:D) (l:List α):Prop:=
 (q = .nils∧l=[])∨(∃ m,B≤m∧q = .ms m 0 w 0 0∧sget s m=some (.fix 0 [])∧l=[])∨(∃ m ty,B≤m∧q = .gs m 0 w l.length∧sget s m=some (.grow ty (cellsG e l))∧l≠[])
theorem OwnG.len {α:Type} {w:Nat} {e:α→List D} {B:Nat} {s:St} {q:D} {l:List α} (h:OwnG w e B s q l):lenD false q=some l.length:=by
 rcases h with ⟨rfl,rfl⟩|⟨m,_,rfl,_,rfl⟩|⟨m,ty,_,rfl,_,_⟩ <;> rfl
theorem OwnG.nag {α:Type} {w:Nat} {e:α→List D} {B:Nat} {s:St} {q:D} {l:List α} (h:OwnG w e B s q l):isAg q=false:=by
 rcases h with ⟨rfl,rfl⟩|⟨m,_,rfl,_,rfl⟩|⟨m,ty,_,rfl,_,_⟩ <;> rfl
theorem OwnG.keep {α:Type} {w:Nat} {e:α→List D} {B:Nat} {s s':St} {q:D} {l:List α} (h:OwnG w e B s q l) (hs:∀ m b,B≤m→sget s m=some b→sget s' m=some b):OwnG w e B s' q l:=by
 rcases h with h|⟨m,h1,h2,h3,h4⟩|⟨m,ty,h1,h2,h3,h4⟩
 ·exact .inl h
 ·exact .inr (.inl ⟨m,h1,h2,hs _ _ h1 h3,h4⟩)
 ·exact .inr (.inr ⟨m,ty,h1,h2,hs _ _ h1 h3,h4⟩)
theorem OwnG.fz {α:Type} {w:Nat} {e:α→List D} (he:EncG w e) (p:Bool) {B:Nat} {s:St} {q:D} {l:List α} (h:OwnG w e B s q l):∃ r,(∀ k,Zv.frz p (k+2) s q=some r)∧Sl w e l r:=by
 rcases h with ⟨rfl,rfl⟩|⟨m,_,rfl,hs,rfl⟩|⟨m,ty,_,rfl,hs,hne⟩
 ·exact ⟨.nils,fun k=>rfl,fun r hr=>by simp at hr,.inl ⟨rfl,rfl⟩⟩
 ·exact ⟨.sl true 0 [],fun k=>by rw [frz_ms,hs]; simp; rfl,fun r hr=>by simp at hr,.inr ⟨true,rfl⟩⟩
 ·refine ⟨.sl false l.length (cellsG e l),?_,fun r hr => ?_,.inr ⟨false,by rw [List.length_map]; rfl⟩⟩
  ·intro k
   rw [frz_gs,hs]
   simp only [Nat.zero_add,List.drop_zero]
   rw [Nat.ble_eq_true_of_le (by rw [he.cells_len]; exact Nat.le_refl _),cond_true,List.take_of_length_le (by rw [he.cells_len]; exact Nat.le_refl _),he.cells_frz]; rfl
  ·obtain ⟨a,_,rfl⟩:=List.mem_map.1 hr; exact he.len a
theorem Sl.scG {α:Type} {w:Nat} {e:α→List D} (he:EncG w e) {l:List α} {d:D} (h:Sl w e l d) (s:St):sliceCells s w d=some (cellsG e l,l.length):=by
 obtain ⟨_,⟨rfl,h⟩|⟨ex,rfl⟩⟩:=h
 ·rw [List.map_eq_nil_iff] at h; subst h; rfl
 ·simp only [sliceCells,List.length_map]
  have:(l.map e).flatten.length=l.length*w:=he.cells_len l
  rw [Nat.ble_eq_true_of_le (by rw [this]; exact Nat.le_refl _),cond_true,List.take_of_length_le (by rw [this]; exact Nat.le_refl _)]; rfl
theorem own_appG {α:Type} {w:Nat} {e:α→List D} (he:EncG w e) {sz ty B:Nat} (hsz:sz≤4096) {x:AS} {q b:D} {l l':List α} {A:Option (D × AS)} (hA:appD x w sz ty q b=A) (h:OwnG w e B x.s q l) (hb:sliceCells x.s w b=some (cellsG e l',l'.length)) (hlen:l.length+l'.length≤4294967296) (hc:B≤x.c) (hfr:∀ m,x.c≤m→sget x.s m=none) :
  ∃ q' s' c',A=some (q',⟨x.t,s',c',x.d,x.r⟩)∧OwnG w e B s' q' (l++l')∧x.c≤c'∧(∀ nm,nm<B→sget s' nm=sget x.s nm)∧∀ m,c'≤m→sget s' m=none:=by
 subst hA
 unfold appD
 rw [hb]
 simp only [Option.bind_eq_bind,Option.bind_some]
 have hrm:∀ k,k≤4294967296→room k sz=true:=fun k hk=>by unfold room; rw [Nat.ble_eq_true_of_le hk,Nat.ble_eq_true_of_le hsz]; rfl
 rcases h with ⟨rfl,rfl⟩|⟨m,hm,rfl,hs,rfl⟩|⟨m,ty',hm,rfl,hs,hne⟩
 ·cases l' with
  | nil=>exact ⟨.nils,x.s,x.c,rfl,.inl ⟨rfl,rfl⟩,Nat.le_refl _,fun _ _=>rfl,hfr⟩
  | cons p r=>
   simp only [List.length_nil,Nat.zero_add] at hlen
   rw [show Nat.beq (p::r).length 0=false from rfl,cond_false,hrm _ hlen,cond_true]
   exact ⟨.gs x.c 0 w (p::r).length,sadd x.s x.c (.grow ty (cellsG e (p::r))),x.c+1,rfl,.inr (.inr ⟨x.c,ty,hc,rfl,by rw [sget_sadd,if_pos rfl]; rfl,by simp⟩),by omega,fun nm hn=>by rw [sget_sadd,if_neg (by omega)],fun k hk=>by rw [sget_sadd,if_neg (by omega)]; exact hfr k (by omega)⟩
 ·have hmc:m<x.c:=Nat.lt_of_not_le fun h=>by rw [hfr m h] at hs; cases hs
  simp only [hs,Nat.beq_refl,cond_true,Nat.zero_add,Nat.zero_mul,List.drop_zero,List.take_zero,List.nil_append,List.length_nil]
  cases l' with
  | nil=>
   exact ⟨.ms m 0 w 0 0,sset x.s m (.fix 0 []),x.c,rfl,.inr (.inl ⟨m,hm,rfl,by rw [sget_sset,if_pos rfl],rfl⟩),Nat.le_refl _,fun nm hn=>by rw [sget_sset,if_neg (by omega)],fun k hk=>by
    rw [sget_sset,if_neg (by omega)]; exact hfr k hk⟩
  | cons p r=>
   simp only [List.length_nil,Nat.zero_add] at hlen
   rw [show Nat.ble (p::r).length 0=false from rfl,cond_false,hrm _ hlen]
   exact ⟨.gs x.c 0 w (p::r).length,sadd x.s x.c (.grow ty (cellsG e (p::r))),x.c+1,rfl,.inr (.inr ⟨x.c,ty,hc,rfl,by rw [sget_sadd,if_pos rfl],by simp⟩),by omega,fun nm hn=>by rw [sget_sadd,if_neg (by omega)],fun k hk=>by rw [sget_sadd,if_neg (by omega)]; exact hfr k (by omega)⟩
 ·simp only [hs]
  cases l' with
  | nil=>exact ⟨.gs m 0 w l.length,x.s,x.c,rfl,.inr (.inr ⟨m,ty',hm,by rw [List.append_nil],by rw [List.append_nil]; exact hs,by rw [List.append_nil]; exact hne⟩),Nat.le_refl _,fun nm hn=>rfl,hfr⟩
  | cons p r=>
   have h1:Nat.ble (0+(l.length+(p::r).length)*w) (cellsG e l).length=false:=by
    rw [←Bool.not_eq_true,Nat.ble_eq,he.cells_len,Nat.zero_add]
    have:=Nat.mul_lt_mul_of_pos_right (show l.length<l.length+(p::r).length by simp) he.pos
    omega
   have h2:Nat.ble (l.length*w) (cellsG e l).length=true:=Nat.ble_eq_true_of_le (by rw [he.cells_len]; exact Nat.le_refl _)
   have htk:(cellsG e l).take (l.length*w)=cellsG e l:=List.take_of_length_le (by rw [he.cells_len]; exact Nat.le_refl _)
   rw [show Nat.beq (p::r).length 0=false from rfl,cond_false,he.cells_nag,Nat.beq_refl,Bool.not_false,Bool.and_true,cond_true,h1,cond_false,h2,hrm _ hlen,Nat.beq_refl,htk]
   simp only [Bool.and_true,cond_true]
   refine ⟨_,_,_,rfl,.inr (.inr ⟨x.c,_,hc,by rw [List.length_append],by rw [sget_sadd,if_pos rfl,cellsG_app],by simp⟩),Nat.le_succ _,fun nm hn => ?_,fun k hk => ?_⟩
   ·rw [sget_sadd,if_neg (by omega),sget_sdel,if_neg (by omega)]
   ·rw [sget_sadd,if_neg (by have:x.c+1≤k:=hk; omega),sget_sdel]
    split
    ·rfl
    ·exact hfr k (by have:x.c+1≤k:=hk; omega)
theorem enc_u8:EncG 1 u8C:=⟨fun _=>rfl,by decide,fun _=>rfl,fun _ _ _ _=>rfl⟩
theorem enc_str:EncG 1 strC:=⟨fun _=>rfl,by decide,fun _=>rfl,fun _ _ _ _=>rfl⟩
end
end Zv
namespace Zv
open Go Ab
noncomputable section
theorem standD_cases (us:List Nat):∃ (r:Int) (b:Bool),standD us = .tup [.int .i64 r,.bool b]:=by
 unfold standD
 cases isR (numL us)
 ·exact ⟨_,_,rfl⟩
 ·exact ⟨_,_,rfl⟩
def F234:AC:=(s (s (r [m 34 0,u 35 (.len false (.t 34)),m 36 3,b 37 .geq 35 36]) (.cond (.t 37) (s (r [c 2 (.bool false)]) .ret) .skip)) (s (s (r [c 5 (i 128)]) (.block 2 (.loop (s (s (r [m 38 5,d 39 .leq 38 (i 191)]) (.cond (.t 39) .skip (.exit 2))) (s (.block 4 (s (r [u 42 (.bsl 0 1 [] []),m 43 0,u 44 (.app 1 1 6 (.t 42) (.t 43)),m 6 44]) (s (.block 6 (.loop (s (s (r [m 45 6,u 46 (.len false (.t 45)),m 47 3,b 48 .lss 46 47]) (.cond (.t 48) .skip (.exit 6))) (.block 8 (r [m 49 6,m 50 5,u 51 (.cvI .u8 (.t 50)),u 52 (.bsl 1 1 [(.int .u8 0)] [(0,1,(.t 51))]),u 53 (.app 1 1 6 (.t 49) (.t 52)),m 6 53]))))) (s (r [m 55 6,u 56 (.call 289 [(.t 55)]),m 54 56,e 57 0 54,e 58 1 54,m 7 57,m 8 58]) (s (r [m 59 8]) (.cond (.t 59) (s (r [c 2 (.bool true)]) .ret) .skip)))))) (r [m 40 5,d 41 .add 40 (i 63),m 5 41])))))) (s (r [c 2 (.bool false)]) .ret)))
theorem B234_eq:B290=(s (r [c 2 (.bool false)]) (s (r [c 3 (i 0)]) (s (r [m 9 0,u 10 (.iaS 1 (.t 9) (.c (i 0))),l 11 10,u 12 (.cvI .i64 (.t 11)),m 4 12]) (s (.block 0 (s (r [m 14 4,d 15 .geq 14 (i 192),m 16 15,my 17 4 16,y 18 16 (.bin .lss (.t 17) (.c (i 224))),u 19 (.pick (.t 16) (.t 18) (.c (.bool false))),m 13 19]) (.cond (.t 13) (r [c 3 (i 2)]) (s (r [m 21 4,d 22 .geq 21 (i 224),m 23 22,my 24 4 23,y 25 23 (.bin .lss (.t 24) (.c (i 240))),u 26 (.pick (.t 23) (.t 25) (.c (.bool false))),m 20 26]) (.cond (.t 20) (r [c 3 (i 3)]) (s (r [m 28 4,d 29 .geq 28 (i 240),m 30 29,my 31 4 30,y 32 30 (.bin .lss (.t 31) (.c (i 248))),u 33 (.pick (.t 30) (.t 32) (.c (.bool false))),m 27 33]) (.cond (.t 27) (r [c 3 (i 4)]) .skip))))))) F234)))):=rfl
theorem tail234 (n:Nat) {us:List Nat} {d:D} (hd:Sl 1 u8C us d) (hu:Bytes8 us) (h1:1≤us.length) (h4:us.length≤3) {M:Nat} (hM:M≤4) {t:Tm} (q0:tget t 0=d) (q3:tget t 3 = .int .i64 (M:Nat)) :
  ∃ b,pout (zbody (dfn (n+3) MM) A290 (zC F234 (cxn (n+3)) (fn (n+3) 4096) KK ⟨t,st0,0,[],none⟩))=some (.bool b,true):=by
 simp only [F234,Ab.abq]
 by_cases hle:M≤us.length
 ·simp only [z2,↓reduceIte,Nat.reduceEqDiff,Nat.reduceAdd,Nat.reduceLeDiff,reduceCtorEq,q0,q3,hd.len,show decide (((M:Nat):Int)≤(us.length:Nat))=true from decide_eq_true (by omega),A290]
  exact ⟨_,rfl⟩
 ·simp only [z2,↓reduceIte,Nat.reduceEqDiff,Nat.reduceAdd,Nat.reduceLeDiff,reduceCtorEq,q0,q3,hd.len,show decide (((M:Nat):Int)≤(us.length:Nat))=false from decide_eq_false (by omega)]
  generalize hz:zloop KK _ _=rl
  refine zwhile rl hz 2 (KK_lt (by decide)) (fun i z=>∃ t s c,z=⟨t,s,c,[],none⟩∧(∀ m,c≤m→sget s m=none)∧tget t 0=d∧tget t 3 = .int .i64 (M:Nat)∧tget t 5 = .int .i64 ((128+63*i:Nat):Int))
   ⟨_,_,_,rfl,fun m _=>sget_st0 m,by simp [ex_val,q0],by simp [ex_val,q3],by simp [ex_val]⟩ ?_
  clear q0 q3
  rintro i z hi ⟨t,s,c,rfl,hfree,q0,q3,q5⟩
  by_cases hi2:i<2
  ·have hle2:decide (((128+63*i:Nat):Int)≤191)=true:=decide_eq_true (by omega)
   simp only [z2,↓reduceIte,Nat.reduceEqDiff,Nat.reduceAdd,Nat.reduceLeDiff,reduceCtorEq,q0,q3,q5,hle2]
   generalize hA:appD _ 1 1 6 _ _=A
   obtain ⟨q',s',c',rfl,hO,hc',_,hfree'⟩:=own_appG enc_u8 (B:=0) (l:=[]) (l':=us) (by decide) hA (.inr (.inl ⟨c,Nat.zero_le _,rfl,by simp [ex_val],rfl⟩)) (hd.scG enc_u8 _) (by simp only [List.length_nil]; omega) (Nat.zero_le _) (fun m hm=>by simp only at hm; simp only [ex_val]; rw [if_neg (by omega)]; exact hfree m (by omega))
   clear hA
   simp only [z2,↓reduceIte,Nat.reduceEqDiff,Nat.reduceAdd,Nat.reduceLeDiff,reduceCtorEq]
   generalize hz2:zloop KK _ _=rl2
   refine zwhile rl2 hz2 4 (KK_lt (by decide)) (fun k z=>∃ t s c q l,z=⟨t,s,c,[],none⟩∧(∀ m,c≤m→sget s m=none)∧tget t 0=d∧tget t 3 = .int .i64 (M:Nat)∧tget t 5 = .int .i64 ((128+63*i:Nat):Int)∧tget t 6=q∧OwnG 1 u8C 0 s q l∧l.length=us.length+k∧l.length≤M∧Bytes8 l)
    ⟨_,_,_,_,_,rfl,hfree',by simp [ex_val,q0],by simp [ex_val,q3],by simp [ex_val,q5],by simp [ex_val],hO,by simp,by simp; omega,by simpa using hu⟩ ?_
   clear q0 q3 q5 hO hfree' hc'
   rintro k z hk ⟨t,s,c,q,l,rfl,hfree,q0,q3,q5,q6,hO,hll,hlM,hl8⟩
   have hq:lenD false q=some l.length:=hO.len
   have hw5:wrapD .u8 ((128+63*i:Nat):Int)=((128+63*i:Nat):Int):=u8_of (by omega) (by omega)
   by_cases hlt:l.length<M
   ·simp only [z2,↓reduceIte,Nat.reduceEqDiff,Nat.reduceAdd,Nat.reduceLeDiff,reduceCtorEq,q0,q3,q5,q6,hq,hw5,show decide ((l.length:Int)<(M:Nat))=true from decide_eq_true (by omega)]
    generalize hA:appD _ 1 1 6 _ _=A
    obtain ⟨q2,s2,c2,rfl,hO2,hc2,_,hfree2⟩:=own_appG enc_u8 (B:=0) (l:=l) (l':=[128+63*i]) (by decide) hA (hO.keep fun m b _ hb=>by simp only [ex_val]; rw [if_neg (by intro e; rw [e,hfree _ (Nat.le_refl _)] at hb; cases hb)]; exact hb) (by simp only [sliceCells,ex_val,↓reduceIte]; rfl) (by simp only [List.length_cons,List.length_nil]; omega) (Nat.zero_le _) (fun m hm=>by simp only at hm; simp only [ex_val]; rw [if_neg (by omega)]; exact hfree m (by omega))
    clear hA
    simp only [z2,↓reduceIte,Nat.reduceEqDiff,Nat.reduceAdd,Nat.reduceLeDiff,reduceCtorEq]
    refine ⟨by omega,_,_,_,_,_,rfl,hfree2,by simp [ex_val,q0],by simp [ex_val,q3],by simp [ex_val,q5],by simp [ex_val],hO2,by simp; omega,by simp; omega,fun u hx => ?_⟩
    rcases List.mem_append.1 hx with hx|hx
    ·exact hl8 u hx
    ·rw [List.mem_singleton.1 hx]; omega
   ·obtain ⟨r,hr1,hr2⟩:=hO.fz enc_u8 false
    have h233:=c233 n hr2 hl8 (by omega) (by omega)
    obtain ⟨rr,bb,hst⟩:=standD_cases l
    have hw6:wrapD .i64 (((128+63*i:Nat):Int)+63)=((128+63*(i+1):Nat):Int):=by rw [wrapD_i64 (by omega) (by omega)]; omega
    cases bb
    ·simp only [z2,↓reduceIte,Nat.reduceEqDiff,Nat.reduceAdd,Nat.reduceLeDiff,reduceCtorEq,q0,q3,q5,q6,hq,show decide ((l.length:Int)<(M:Nat))=false from decide_eq_false (by omega),fn_pure (f:=289) rfl,ex_call,hr1,h233,hst,hw6]
     exact ⟨hi2,_,_,_,rfl,hfree,by simp [ex_val,q0],by simp [ex_val,q3],by simp [ex_val]⟩
    ·simp only [z2,↓reduceIte,Nat.reduceEqDiff,Nat.reduceAdd,Nat.reduceLeDiff,reduceCtorEq,q0,q3,q5,q6,hq,show decide ((l.length:Int)<(M:Nat))=false from decide_eq_false (by omega),fn_pure (f:=289) rfl,ex_call,hr1,h233,hst,hw6,A290]
     exact ⟨_,rfl⟩
  ·have hle2:decide (((128+63*i:Nat):Int)≤191)=false:=decide_eq_false (by omega)
   simp only [z2,↓reduceIte,Nat.reduceEqDiff,Nat.reduceAdd,Nat.reduceLeDiff,reduceCtorEq,q0,q3,q5,hle2,A290]
   exact ⟨_,rfl⟩
theorem c234 (n:Nat) {us:List Nat} {d:D} (hd:Sl 1 u8C us d) (hu:Bytes8 us) (h1:1≤us.length) (h4:us.length≤3):∃ b,cl (n+3) 290 [d]=some (.bool b,true):=by
 rw [cl_run (A:=A290) rfl (n+3) _ rfl,show A290.body=B290 from rfl,B234_eq]
 have ha:=hu _ (List.getElem_mem (show 0<us.length by omega))
 have hw:=w64 ha
 have hi0:=hd.ia1 (k := .i64) (show 0<us.length by omega)
 have hi0':iaSD 1 d (.int .i64 0)=some (.iptr (us.map u8C).flatten 0):=hi0
 have ha0:=hd.at1 (show 0<us.length by omega)
 have T:∀ c:Prop,[Decidable c]→c→decide c=true:=fun c _ h=>decide_eq_true h
 by_cases c1:us[0]<192
 ·simp only [z2,↓reduceIte,Nat.reduceEqDiff,Nat.reduceAdd,Nat.reduceLeDiff,reduceCtorEq,hd.nag,hi0',ha0,u8C,hw,List.getElem?_cons_zero,show decide ((192:Int)≤us[0])=false from decide_eq_false (by omega),show decide ((224:Int)≤us[0])=false from decide_eq_false (by omega),show decide ((240:Int)≤us[0])=false from decide_eq_false (by omega)]
  exact tail234 n hd hu h1 h4 (M:=0) (by omega) (by simp [ex_val]) (by simp [ex_val])
 ·by_cases c2:us[0]<224
  ·simp only [z2,↓reduceIte,Nat.reduceEqDiff,Nat.reduceAdd,Nat.reduceLeDiff,reduceCtorEq,hd.nag,hi0',ha0,u8C,hw,List.getElem?_cons_zero,show decide ((192:Int)≤us[0])=true from decide_eq_true (by omega),show decide ((us[0]:Int)<224)=true from decide_eq_true (by omega)]
   exact tail234 n hd hu h1 h4 (M:=2) (by omega) (by simp [ex_val]) (by simp [ex_val])
  ·by_cases c3:us[0]<240
   ·simp only [z2,↓reduceIte,Nat.reduceEqDiff,Nat.reduceAdd,Nat.reduceLeDiff,reduceCtorEq,hd.nag,hi0',ha0,u8C,hw,List.getElem?_cons_zero,show decide ((192:Int)≤us[0])=true from decide_eq_true (by omega),show decide ((us[0]:Int)<224)=false from decide_eq_false (by omega),show decide ((224:Int)≤us[0])=true from decide_eq_true (by omega),show decide ((us[0]:Int)<240)=true from decide_eq_true (by omega)]
    exact tail234 n hd hu h1 h4 (M:=3) (by omega) (by simp [ex_val]) (by simp [ex_val])
   ·by_cases c4:us[0]<248
    ·simp only [z2,↓reduceIte,Nat.reduceEqDiff,Nat.reduceAdd,Nat.reduceLeDiff,reduceCtorEq,hd.nag,hi0',ha0,u8C,hw,List.getElem?_cons_zero,show decide ((192:Int)≤us[0])=true from decide_eq_true (by omega),show decide ((us[0]:Int)<224)=false from decide_eq_false (by omega),show decide ((224:Int)≤us[0])=true from decide_eq_true (by omega),show decide ((us[0]:Int)<240)=false from decide_eq_false (by omega),show decide ((240:Int)≤us[0])=true from decide_eq_true (by omega),show decide ((us[0]:Int)<248)=true from decide_eq_true (by omega)]
     exact tail234 n hd hu h1 h4 (M:=4) (by omega) (by simp [ex_val]) (by simp [ex_val])
    ·simp only [z2,↓reduceIte,Nat.reduceEqDiff,Nat.reduceAdd,Nat.reduceLeDiff,reduceCtorEq,hd.nag,hi0',ha0,u8C,hw,List.getElem?_cons_zero,show decide ((192:Int)≤us[0])=true from decide_eq_true (by omega),show decide ((us[0]:Int)<224)=false from decide_eq_false (by omega),show decide ((224:Int)≤us[0])=true from decide_eq_true (by omega),show decide ((us[0]:Int)<240)=false from decide_eq_false (by omega),show decide ((240:Int)≤us[0])=true from decide_eq_true (by omega),show decide ((us[0]:Int)<248)=false from decide_eq_false (by omega)]
     exact tail234 n hd hu h1 h4 (M:=0) (by omega) (by simp [ex_val]) (by simp [ex_val])
end
end Zv
namespace Zv
open Go
noncomputable section
def standB (l:List Nat):Bool:=match standD l with | .tup [_,.bool b]=>b|_=>false
theorem c176 (n:Nat) {us:List Nat} {d:D} (hd:Sl 1 u8C us d) (hu:Bytes8 us) {at':Nat} (hat:at'<us.length) (h63:us.length<9223372036854775800) :
  (∃ (k:Nat) (r:Int),1≤k∧k≤4∧at'+k≤us.length∧standB ((us.drop at').take k)=true∧cl (n+4) 255 [d,.int .i64 (at':Nat)]=some (.tup [.int .i64 r,.int .i64 (k:Nat),.int .i64 0],true)) ∨
  ((∀ k,1≤k→k≤4→at'+k≤us.length→standB ((us.drop at').take k)=false)∧∃ e:Int,e≠0∧cl (n+4) 255 [d,.int .i64 (at':Nat)]=some (.tup [.int .i64 0,.int .i64 0,.int .i64 e],true)):=by
 rw [cl_run (A:=A255) rfl (n+4) _ rfl,show A255.body=B255 from rfl]
 simp only [B255,Ab.abq]
 simp only [z2,↓reduceIte,Nat.reduceEqDiff,Nat.reduceAdd,Nat.reduceLeDiff,reduceCtorEq,hd.nag,hd.len,show decide (((at':Nat):Int)<0)=false from decide_eq_false (by omega),show decide ((us.length:Int)≤(at':Nat))=false from decide_eq_false (by omega)]
 generalize hz:zloop KK _ _=rl
 refine zwhile rl hz 4 (KK_lt (by decide)) (fun i z=>∃ t s c,z=⟨t,s,c,[],none⟩∧tget t 0=d∧tget t 1 = .int .i64 (at':Nat)∧tget t 7 = .int .i64 ((i+1:Nat):Int)∧∀ k,1≤k→k≤i→at'+k≤us.length→standB ((us.drop at').take k)=false)
  ⟨_,_,_,rfl,by simp [ex_val],by simp [ex_val],by simp [ex_val],fun k h1 h2=>by omega⟩ ?_
 rintro i z hi ⟨t,s,c,rfl,q0,q1,q7,hn⟩
 have hadd:wrapD .i64 (((at':Nat):Int)+((i+1:Nat):Int))=((at'+(i+1):Nat):Int):=by rw [wrapD_i64 (by omega) (by omega)]; omega
 have hinc:wrapD .i64 (((i+1:Nat):Int)+1)=((i+1+1:Nat):Int):=inc_i64 (by omega)
 have hsub:wrapD .i64 ((us.length:Int)-(at':Nat))=((us.length-at':Nat):Int):=by rw [wrapD_i64 (by omega) (by omega)]; omega
 by_cases hgo:i+1≤4∧at'+(i+1)≤us.length
 ·obtain ⟨d',hd1,hd2⟩:=hd.part (i:=at') (j:=at'+(i+1)) (by omega) hgo.2 (k := .i64) (k' := .i64)
  rw [List.drop_take,show at'+(i+1)-at'=i+1 by omega] at hd2
  have hl:((us.drop at').take (i+1)).length=i+1:=by rw [List.length_take,List.length_drop]; omega
  have h8:Bytes8 ((us.drop at').take (i+1)):=fun u hx=>hu u (List.mem_of_mem_drop (List.mem_of_mem_take hx))
  have h233:=c233 (n+1) hd2 h8 (by omega) (by omega)
  obtain ⟨r,b,hst⟩:=standD_cases ((us.drop at').take (i+1))
  have hsb:standB ((us.drop at').take (i+1))=b:=by rw [standB,hst]
  cases b
  ·simp only [z2,↓reduceIte,Nat.reduceEqDiff,Nat.reduceAdd,Nat.reduceLeDiff,reduceCtorEq,q0,q1,q7,hd.len,hadd,hinc,hd1,show decide (((i+1:Nat):Int)≤4)=true from decide_eq_true (by omega),show decide (((at'+(i+1):Nat):Int)≤(us.length:Int))=true from decide_eq_true (by omega),fn_pure (f:=289) rfl,ex_call,hd2.fz,h233,hst]
   refine ⟨by omega,_,_,_,rfl,by simp [ex_val,q0],by simp [ex_val,q1],by simp [ex_val],fun k h1 h2 h3 => ?_⟩
   rcases Nat.lt_or_ge k (i+1) with h|h
   ·exact hn k h1 (by omega) h3
   ·obtain rfl:k=i+1:=by omega
    exact hsb
  ·simp only [z2,↓reduceIte,Nat.reduceEqDiff,Nat.reduceAdd,Nat.reduceLeDiff,reduceCtorEq,q0,q1,q7,hd.len,hadd,hinc,hd1,show decide (((i+1:Nat):Int)≤4)=true from decide_eq_true (by omega),show decide (((at'+(i+1):Nat):Int)≤(us.length:Int))=true from decide_eq_true (by omega),fn_pure (f:=289) rfl,ex_call,hd2.fz,h233,hst,A255]
   exact .inl ⟨i+1,r,by omega,hgo.1,hgo.2,hsb,rfl⟩
 ·have hall:∀ k,1≤k→k≤4→at'+k≤us.length→standB ((us.drop at').take k)=false:=fun k h1 h2 h3=>hn k h1 (by omega) h3
  obtain ⟨d',hd1,hd2⟩:=hd.tail (i:=at') (by omega) (k := .i64)
  have fin:∀ {X:R},True:=trivial
  by_cases h4:us.length-at'<4
  ·have hl:(us.drop at').length=us.length-at':=List.length_drop
   obtain ⟨b,h234⟩:=c234 n hd2 (fun u hx=>hu u (List.mem_of_mem_drop hx)) (by omega) (by omega)
   by_cases h5:i+1≤4
   ·cases b
    ·simp only [z2,↓reduceIte,Nat.reduceEqDiff,Nat.reduceAdd,Nat.reduceLeDiff,reduceCtorEq,q0,q1,q7,hd.len,hadd,hsub,hd1,show decide (((i+1:Nat):Int)≤4)=true from decide_eq_true (by omega),show decide (((at'+(i+1):Nat):Int)≤(us.length:Int))=false from decide_eq_false (by omega),show decide (((us.length-at':Nat):Int)<4)=true from decide_eq_true (by omega),fn_pure (f:=290) rfl,ex_call,hd2.fz,h234,A255]
     exact .inr ⟨hall,6,by decide,rfl⟩
    ·simp only [z2,↓reduceIte,Nat.reduceEqDiff,Nat.reduceAdd,Nat.reduceLeDiff,reduceCtorEq,q0,q1,q7,hd.len,hadd,hsub,hd1,show decide (((i+1:Nat):Int)≤4)=true from decide_eq_true (by omega),show decide (((at'+(i+1):Nat):Int)≤(us.length:Int))=false from decide_eq_false (by omega),show decide (((us.length-at':Nat):Int)<4)=true from decide_eq_true (by omega),fn_pure (f:=290) rfl,ex_call,hd2.fz,h234,A255]
     exact .inr ⟨hall,370,by decide,rfl⟩
   ·cases b
    ·simp only [z2,↓reduceIte,Nat.reduceEqDiff,Nat.reduceAdd,Nat.reduceLeDiff,reduceCtorEq,q0,q1,q7,hd.len,hsub,hd1,show decide (((i+1:Nat):Int)≤4)=false from decide_eq_false (by omega),show decide (((us.length-at':Nat):Int)<4)=true from decide_eq_true (by omega),fn_pure (f:=290) rfl,ex_call,hd2.fz,h234,A255]
     exact .inr ⟨hall,6,by decide,rfl⟩
    ·simp only [z2,↓reduceIte,Nat.reduceEqDiff,Nat.reduceAdd,Nat.reduceLeDiff,reduceCtorEq,q0,q1,q7,hd.len,hsub,hd1,show decide (((i+1:Nat):Int)≤4)=false from decide_eq_false (by omega),show decide (((us.length-at':Nat):Int)<4)=true from decide_eq_true (by omega),fn_pure (f:=290) rfl,ex_call,hd2.fz,h234,A255]
     exact .inr ⟨hall,370,by decide,rfl⟩
  ·by_cases h5:i+1≤4
   ·exfalso; omega
   ·simp only [z2,↓reduceIte,Nat.reduceEqDiff,Nat.reduceAdd,Nat.reduceLeDiff,reduceCtorEq,q0,q1,q7,hd.len,hsub,show decide (((i+1:Nat):Int)≤4)=false from decide_eq_false (by omega),show decide (((us.length-at':Nat):Int)<4)=false from decide_eq_false (by omega),A255]
    exact .inr ⟨hall,6,by decide,rfl⟩
end
end Zv
namespace Zv
open Go
noncomputable section
open Go.Lib (decodeN decodeL)
theorem good1 {n b0 b1 b2 b3:Nat}:(decodeN n b0 b1 b2 b3≠(65533,1)∧(decodeN n b0 b1 b2 b3).2=1)↔b0<128:=by
 unfold decodeN
 repeat' split
 all_goals (simp; try omega)
theorem good2 {n b0 b1 b2 b3:Nat} (h0:b0<256) (h1:b1<256):(decodeN n b0 b1 b2 b3).2=2↔1<n∧192≤b0∧b0<224∧128≤b1∧b1<192∧128≤(b0-192)*64+(b1-128):=by
 unfold decodeN
 repeat' split
 all_goals (simp; try omega)
theorem good3 {n b0 b1 b2 b3:Nat} (h0:b0<256) (h1:b1<256) (h2:b2<256):(decodeN n b0 b1 b2 b3).2=3↔2<n∧224≤b0∧b0<240∧128≤b1∧b1<192∧128≤b2∧b2<192∧2048≤(b0-224)*4096+(b1-128)*64+(b2-128)∧((b0-224)*4096+(b1-128)*64+(b2-128)<55296∨57344≤(b0-224)*4096+(b1-128)*64+(b2-128)):=by
 unfold decodeN
 repeat' split
 all_goals (simp; try omega)
theorem good4 {n b0 b1 b2 b3:Nat} (h0:b0<256) (h1:b1<256) (h2:b2<256) (h3:b3<256):(decodeN n b0 b1 b2 b3).2=4↔3<n∧240≤b0∧b0<248∧128≤b1∧b1<192∧128≤b2∧b2<192∧128≤b3∧b3<192∧65536≤(b0-240)*262144+(b1-128)*4096+(b2-128)*64+(b3-128)∧(b0-240)*262144+(b1-128)*4096+(b2-128)*64+(b3-128)≤1114111:=by
 unfold decodeN
 repeat' split
 all_goals (simp; try omega)
theorem width4 {n b0 b1 b2 b3:Nat}:1≤(decodeN n b0 b1 b2 b3).2∧(decodeN n b0 b1 b2 b3).2≤4:=by
 unfold decodeN
 repeat' split
 all_goals simp
/-! Which bytes stand for a rune. -/
theorem bsN_eq {us:List Nat} (hu:Bytes8 us) {l:List Int} (h:∀ x∈l,0≤x∧x<256):decide (bsN us=l.map fun x=>UInt8.ofNat x.toNat)=decide (us.map (fun (u:Nat)=>(u:Int))=l):=by
 rw [Bool.eq_iff_iff,decide_eq_true_eq,decide_eq_true_eq]
 unfold bsN
 induction us generalizing l with
 | nil=>cases l <;> simp
 | cons a us ih=>
  cases l with
  | nil=>simp
  | cons x l=>
   have ha:=hu a (by simp)
   have hx:=h x (by simp)
   have:=ih (fun u hu'=>hu u (by simp [hu'])) (l:=l) (fun y hy=>h y (by simp [hy]))
   simp only [List.map_cons,List.cons.injEq,this]
   refine and_congr ⟨fun e => ?_,fun e=>by rw [←e]; simp⟩ Iff.rfl
   have:=congrArg UInt8.toNat e
   rw [UInt8.toNat_ofNat',UInt8.toNat_ofNat',Nat.mod_eq_of_lt ha,Nat.mod_eq_of_lt (by omega)] at this
   omega
theorem encL_byte {r:Int} (h:isR r=true):∀ x∈encL r,0≤x∧x<256:=by
 unfold isR at h
 simp only [Bool.and_eq_true,decide_eq_true_eq] at h
 obtain ⟨r0,r1,_⟩:=h
 intro x hx
 unfold encL at hx
 split at hx
 ·simp only [List.mem_singleton] at hx; omega
 ·split at hx
  ·simp only [List.mem_cons,List.not_mem_nil,or_false] at hx; omega
  ·split at hx
   ·simp only [List.mem_cons,List.not_mem_nil,or_false] at hx; omega
   ·simp only [List.mem_cons,List.not_mem_nil,or_false] at hx; omega
theorem standB_eq {us:List Nat} (hu:Bytes8 us):standB us=(isR (numL us)&&decide (us.map (fun (u:Nat)=>(u:Int))=encL (numL us))):=by
 unfold standB standD
 cases h:isR (numL us)
 ·rfl
 ·simp only [cond_true,Bool.true_and]
  rw [encB,bsN_eq hu (encL_byte h)]
theorem stand1 {a:Nat} (ha:a<256):standB [a]=true↔a<128:=by
 rw [standB_eq (fun u hu=>by simp at hu; omega),numL]
 by_cases h:a<128
 ·have hr:isR (a:Int)=true:=by unfold isR; simp; omega
  rw [if_pos h,hr]; simp [encL]; omega
 ·rw [if_neg h]; simp [isR]; omega
theorem contN_iff {b:Nat}:contN b=true↔128≤b∧b<192:=by unfold contN; simp
theorem stand2 {a b:Nat} (ha:a<256) (hb:b<256):standB [a,b]=true↔192≤a∧a<224∧128≤b∧b<192∧128≤(a-192)*64+(b-128):=by
 rw [standB_eq (fun u hu=>by simp at hu; omega),numL]
 by_cases h:192≤a∧a<224
 ·rw [if_pos h]
  cases hc:contN b
  ·have:¬ (128≤b∧b<192):=fun h=>by rw [contN_iff.2 h] at hc; cases hc
   rw [cond_false]
   exact ⟨fun h=>by simp [isR] at h,fun h=>by omega⟩
  ·have hb2:=contN_iff.1 hc
   rw [cond_true]
   generalize hr:64*((a:Int)-192)+b-128=r
   have hR:isR r=true:=by unfold isR; simp; omega
   rw [hR,Bool.true_and,decide_eq_true_eq]
   unfold encL
   by_cases h1:r<128
   ·rw [if_pos h1]; simp; omega
   ·rw [if_neg h1,if_pos (by omega)]
    simp only [List.map_cons,List.map_nil,List.cons.injEq,and_true]
    omega
 ·rw [if_neg h]
  exact ⟨fun h=>by simp [isR] at h,fun h=>by omega⟩
theorem stand3 {a b c:Nat} (ha:a<256) (hb:b<256) (hc:c<256):standB [a,b,c]=true↔224≤a∧a<240∧128≤b∧b<192∧128≤c∧c<192∧2048≤(a-224)*4096+(b-128)*64+(c-128)∧((a-224)*4096+(b-128)*64+(c-128)<55296∨57344≤(a-224)*4096+(b-128)*64+(c-128)):=by
 rw [standB_eq (fun u hu=>by simp at hu; omega),numL]
 by_cases h:224≤a∧a<240
 ·rw [if_pos h]
  cases hcb:contN b
  ·have:¬ (128≤b∧b<192):=fun h=>by rw [contN_iff.2 h] at hcb; cases hcb
   rw [cond_false]
   exact ⟨fun h=>by simp [isR] at h,fun h=>by omega⟩
  ·have hb2:=contN_iff.1 hcb
   rw [cond_true]
   cases hcc:contN c
   ·have:¬ (128≤c∧c<192):=fun h=>by rw [contN_iff.2 h] at hcc; cases hcc
    rw [cond_false]
    exact ⟨fun h=>by simp [isR] at h,fun h=>by omega⟩
   ·have hc2:=contN_iff.1 hcc
    rw [cond_true]
    generalize hr:64*(64*((a:Int)-224)+b-128)+c-128=r
    by_cases hR:r<55296∨57343<r
    ·have hR':isR r=true:=by unfold isR; simp; omega
     rw [hR',Bool.true_and,decide_eq_true_eq]
     unfold encL
     by_cases h1:r<128
     ·rw [if_pos h1]; simp; omega
     ·by_cases h2:r<2048
      ·rw [if_neg h1,if_pos h2]; simp; omega
      ·rw [if_neg h1,if_neg h2,if_pos (by omega)]
       simp only [List.map_cons,List.map_nil,List.cons.injEq,and_true]
       omega
    ·have hR':isR r=false:=by unfold isR; simp; omega
     rw [hR',Bool.false_and]
     exact ⟨nofun,fun h=>by omega⟩
 ·rw [if_neg h]
  exact ⟨fun h=>by simp [isR] at h,fun h=>by omega⟩
theorem stand4 {a b c e:Nat} (ha:a<256) (hb:b<256) (hc:c<256) (he:e<256):standB [a,b,c,e]=true↔240≤a∧a<248∧128≤b∧b<192∧128≤c∧c<192∧128≤e∧e<192∧65536≤(a-240)*262144+(b-128)*4096+(c-128)*64+(e-128)∧(a-240)*262144+(b-128)*4096+(c-128)*64+(e-128)≤1114111:=by
 rw [standB_eq (fun u hu=>by simp at hu; omega),numL]
 by_cases h:240≤a∧a<248
 ·rw [if_pos h]
  cases hcb:contN b
  ·have:¬ (128≤b∧b<192):=fun h=>by rw [contN_iff.2 h] at hcb; cases hcb
   rw [cond_false]
   exact ⟨fun h=>by simp [isR] at h,fun h=>by omega⟩
  ·have hb2:=contN_iff.1 hcb
   rw [cond_true]
   cases hcc:contN c
   ·have:¬ (128≤c∧c<192):=fun h=>by rw [contN_iff.2 h] at hcc; cases hcc
    rw [cond_false]
    exact ⟨fun h=>by simp [isR] at h,fun h=>by omega⟩
   ·have hc2:=contN_iff.1 hcc
    rw [cond_true]
    cases hce:contN e
    ·have:¬ (128≤e∧e<192):=fun h=>by rw [contN_iff.2 h] at hce; cases hce
     rw [cond_false]
     exact ⟨fun h=>by simp [isR] at h,fun h=>by omega⟩
    ·have he2:=contN_iff.1 hce
     rw [cond_true]
     generalize hr:64*(64*(64*((a:Int)-240)+b-128)+c-128)+e-128=r
     by_cases hR:(r<55296∨57343<r)∧r≤1114111
     ·have hR':isR r=true:=by unfold isR; simp; omega
      rw [hR',Bool.true_and,decide_eq_true_eq]
      unfold encL
      by_cases h1:r<128
      ·rw [if_pos h1]; simp; omega
      ·by_cases h2:r<2048
       ·rw [if_neg h1,if_pos h2]; simp; omega
       ·by_cases h3:r<65536
        ·rw [if_neg h1,if_neg h2,if_pos h3]; simp; omega
        ·rw [if_neg h1,if_neg h2,if_neg h3]
         simp only [List.map_cons,List.map_nil,List.cons.injEq,and_true]
         omega
     ·have hR':isR r=false:=by unfold isR; simp; omega
      rw [hR',Bool.false_and]
      exact ⟨nofun,fun h=>by omega⟩
 ·rw [if_neg h]
  exact ⟨fun h=>by simp [isR] at h,fun h=>by omega⟩
def byN (l:List UInt8):List Nat:=l.map UInt8.toNat
theorem byN_8 (l:List UInt8):Bytes8 (byN l):=fun u hu=>by
 obtain ⟨b,_,rfl⟩:=List.mem_map.1 hu; exact b.toNat_lt
theorem stand_iff {l:List UInt8} {k:Nat} (h1:1≤k) (h4:k≤4) (hk:k≤l.length):standB ((byN l).take k)=true↔decodeL l≠(65533,1)∧(decodeL l).2=k:=by
 rw [Go.Lib.decodeL_N]
 have hb:∀ i,(l.getD i 0).toNat<256:=fun i=>(l.getD i 0).toNat_lt
 have hg:∀ i (h:i<l.length),(byN l)[i]'(by rw [byN,List.length_map]; exact h)=(l.getD i 0).toNat:=fun i h=>by
  simp only [byN,List.getElem_map,lgetD h]
 have hne:∀ k,k≠1→(decodeN l.length (l.getD 0 0).toNat (l.getD 1 0).toNat (l.getD 2 0).toNat (l.getD 3 0).toNat).2=k→decodeN l.length (l.getD 0 0).toNat (l.getD 1 0).toNat (l.getD 2 0).toNat (l.getD 3 0).toNat≠(65533,1):=fun k hk h e=>by rw [e] at h; exact hk h.symm
 have hlen:(byN l).length=l.length:=by rw [byN,List.length_map]
 obtain rfl|rfl|rfl|rfl:k=1∨k=2∨k=3∨k=4:=by omega
 ·have ht:(byN l).take 1=[(l.getD 0 0).toNat]:=by
   rw [List.take_succ_eq_append_getElem (by omega),hg 0 (by omega)]; rfl
  rw [ht,stand1 (hb 0)]
  exact good1.symm
 ·have ht:(byN l).take 2=[(l.getD 0 0).toNat,(l.getD 1 0).toNat]:=by
   rw [List.take_succ_eq_append_getElem (by omega),List.take_succ_eq_append_getElem (by omega),hg 0 (by omega),hg 1 (by omega)]; rfl
  rw [ht,stand2 (hb 0) (hb 1)]
  have:=good2 (n:=l.length) (b2:=(l.getD 2 0).toNat) (b3:=(l.getD 3 0).toNat) (hb 0) (hb 1)
  exact ⟨fun h=>⟨hne 2 (by decide) (this.2 ⟨by omega,h⟩),this.2 ⟨by omega,h⟩⟩,fun h=>(this.1 h.2).2⟩
 ·have ht:(byN l).take 3=[(l.getD 0 0).toNat,(l.getD 1 0).toNat,(l.getD 2 0).toNat]:=by
   rw [List.take_succ_eq_append_getElem (by omega),List.take_succ_eq_append_getElem (by omega),List.take_succ_eq_append_getElem (by omega),hg 0 (by omega),hg 1 (by omega),hg 2 (by omega)]; rfl
  rw [ht,stand3 (hb 0) (hb 1) (hb 2)]
  have:=good3 (n:=l.length) (b3:=(l.getD 3 0).toNat) (hb 0) (hb 1) (hb 2)
  exact ⟨fun h=>⟨hne 3 (by decide) (this.2 ⟨by omega,h⟩),this.2 ⟨by omega,h⟩⟩,fun h=>(this.1 h.2).2⟩
 ·have ht:(byN l).take 4=[(l.getD 0 0).toNat,(l.getD 1 0).toNat,(l.getD 2 0).toNat,(l.getD 3 0).toNat]:=by
   rw [List.take_succ_eq_append_getElem (by omega),List.take_succ_eq_append_getElem (by omega),List.take_succ_eq_append_getElem (by omega),List.take_succ_eq_append_getElem (by omega),hg 0 (by omega),hg 1 (by omega),hg 2 (by omega),hg 3 (by omega)]; rfl
  rw [ht,stand4 (hb 0) (hb 1) (hb 2) (hb 3)]
  have:=good4 (n:=l.length) (hb 0) (hb 1) (hb 2) (hb 3)
  exact ⟨fun h=>⟨hne 4 (by decide) (this.2 ⟨by omega,h⟩),this.2 ⟨by omega,h⟩⟩,fun h=>(this.1 h.2).2⟩
end
end Zv
namespace Zv
open Go
noncomputable section
open Go.Lib (decodeN decodeL)
def cntG:Nat→List UInt8→Option Nat
 | 0,_=>some 0
 | n+1,l=>if l=[] then some 0 else if decodeL l=(65533,1) then none else (cntG n (l.drop (decodeL l).2)).map (· + 1)
def cntL (l:List UInt8):Option Nat:=cntG l.length l
theorem cntG_fuel:∀ (n m:Nat) (l:List UInt8),l.length≤n→l.length≤m→cntG n l=cntG m l
 | 0,m,l,h,h'=>by
  have:l=[]:=List.eq_nil_of_length_eq_zero (by omega)
  subst this
  cases m <;> rfl
 | n+1,0,l,h,h'=>by
  have:l=[]:=List.eq_nil_of_length_eq_zero (by omega)
  subst this; rfl
 | n+1,m+1,l,h,h'=>by
  unfold cntG
  by_cases hl:l=[]
  ·rw [if_pos hl,if_pos hl]
  ·rw [if_neg hl,if_neg hl]
   have hw:=Go.Lib.decodeL_width l
   have:=List.length_pos_iff.2 hl
   rw [cntG_fuel n m (l.drop (decodeL l).2) (by rw [List.length_drop]; omega) (by rw [List.length_drop]; omega)]
theorem cntL_nil:cntL []=some 0:=rfl
theorem cntL_step {l:List UInt8} (hl:l≠[]):cntL l=if decodeL l=(65533,1) then none else (cntL (l.drop (decodeL l).2)).map (· + 1):=by
 have hw:=Go.Lib.decodeL_width l
 have:=List.length_pos_iff.2 hl
 obtain ⟨k,hk⟩:∃ k,l.length=k+1:=⟨l.length-1,by omega⟩
 unfold cntL
 rw [hk,cntG,if_neg hl,cntG_fuel k (l.drop (decodeL l).2).length _ (by rw [List.length_drop]; omega) (Nat.le_refl _)]
theorem validG_cnt:∀ (n:Nat) (l:List UInt8),Go.Lib.validGoD n l=(cntG n l).isSome
 | 0,l=>rfl
 | n+1,l=>by
  unfold Go.Lib.validGoD cntG
  by_cases hl:l=[]
  ·rw [if_pos hl,if_pos hl]; rfl
  ·rw [if_neg hl,if_neg hl]
   by_cases hd:decodeL l=(65533,1)
   ·rw [if_pos hd,if_pos ⟨by rw [hd],by rw [hd]⟩]; rfl
   ·rw [if_neg hd,if_neg fun h=>hd (Prod.ext h.1 h.2),validG_cnt n]
    cases cntG n (l.drop (decodeL l).2) <;> rfl
theorem valid_cnt (l:List UInt8):Go.Lib.validD l=(cntL l).isSome:=validG_cnt _ l
def cntI (l:List UInt8):Int:=match cntL l with|some k=>k|none => -1
theorem frz_bytes (s:List UInt8):(bytesOf s).length=s.length:=by rw [bytesOf,List.length_map]
theorem bytes_cells (s:List UInt8):bytesOf s=cellsG u8C (byN s):=by
 unfold bytesOf cellsG byN
 induction s with
 | nil=>rfl
 | cons a s ih=>simp only [List.map_cons,List.flatten_cons,ih,u8C]; rfl
theorem bytes_sl (ex:Bool) (s:List UInt8):Sl 1 u8C (byN s) (.sl ex s.length (bytesOf s)):=
 ⟨fun r hr=>by obtain ⟨b,_,rfl⟩:=List.mem_map.1 hr; rfl,.inr ⟨ex,by rw [bytes_cells,List.length_map,byN,List.length_map]; rfl⟩⟩
theorem byN_drop (s:List UInt8) (k:Nat):(byN s).drop k=byN (s.drop k):=by rw [byN,byN,List.map_drop]
theorem c146 (n:Nat) (s:List UInt8) (hs:s.length<4294967296):cl (n+5) 176 [.str s]=some (.int .i64 (cntI s),true):=by
 rw [cl_run (A:=A176) rfl (n+5) _ rfl,show A176.body=B176 from rfl]
 simp only [B176,Ab.abq]
 simp only [z2,↓reduceIte,Nat.reduceEqDiff,Nat.reduceAdd,Nat.reduceLeDiff,reduceCtorEq]
 generalize hz:zloop KK _ _=rl
 refine zwhile rl hz s.length (KK_lt (by omega)) (fun i z=>∃ t st c at',z=⟨t,st,c,[],none⟩∧at'≤s.length∧i≤at'∧tget t 0 = .str s∧tget t 3 = .int .i64 (i:Nat)∧tget t 4 = .int .i64 ((at':Nat):Int)∧cntL s=(cntL (s.drop at')).map (· + i))
  ⟨_,_,_,0,rfl,by omega,by omega,by simp [ex_val],by simp [ex_val],by simp [ex_val],by cases h:cntL s <;> simp [h]⟩ ?_
 rintro i z hi ⟨t,st,c,at',rfl,hat,hia,q0,q3,q4,hc⟩
 by_cases hlt:at'<s.length
 ·have hlen:(byN s).length=s.length:=by rw [byN,List.length_map]
  have hsl:=bytes_sl false s
  have hdr:s.drop at'≠[]:=fun h=>by have:=congrArg List.length h; rw [List.length_drop,List.length_nil] at this; omega
  have hfz:∀ st c,frz false 20 (sadd st c (.grow 0 (bytesOf s))) (.gs c 0 1 s.length)=some (.sl false s.length (bytesOf s)):=fun st c=>by
   rw [frz_gs,sget_sadd,if_pos rfl]
   simp only [Nat.zero_add,Nat.mul_one,List.drop_zero,frz_bytes]
   rw [Nat.ble_eq_true_of_le (Nat.le_refl _),cond_true,←frz_bytes s,List.take_length,bytes_cells,enc_u8.cells_frz]; rfl
  rcases c176 n hsl (byN_8 s) (at':=at') (by omega) (by omega) with ⟨k,r,h1,h4,hk,hst,h176⟩|⟨hno,e,he,h176⟩
  ·rw [byN_drop] at hst
   have hsi:=(stand_iff h1 h4 (by rw [List.length_drop]; omega)).1 hst
   have hadd:wrapD .i64 (((at':Nat):Int)+(k:Nat))=((at'+k:Nat):Int):=by rw [wrapD_i64 (by omega) (by omega)]; omega
   have hinc:wrapD .i64 (((i:Nat):Int)+1)=((i+1:Nat):Int):=inc_i64 (by omega)
   simp only [z2,↓reduceIte,Nat.reduceEqDiff,Nat.reduceAdd,Nat.reduceLeDiff,reduceCtorEq,q0,q3,q4,show decide (((at':Nat):Int)<(s.length:Int))=true from decide_eq_true (by omega),fn_pure (f:=255) rfl,ex_call,hfz,h176,ne_eq,not_true_eq_false,decide_false,hadd,hinc]
   refine ⟨by omega,_,_,_,at'+k,rfl,by omega,by omega,by simp [ex_val,q0],by simp [ex_val],by simp [ex_val],?_⟩
   rw [hc,cntL_step hdr,if_neg hsi.1,hsi.2,List.drop_drop,Option.map_map]
   congr 1
   funext x; simp only [Function.comp]; omega
  ·simp only [z2,↓reduceIte,Nat.reduceEqDiff,Nat.reduceAdd,Nat.reduceLeDiff,reduceCtorEq,q0,q3,q4,show decide (((at':Nat):Int)<(s.length:Int))=true from decide_eq_true (by omega),fn_pure (f:=255) rfl,ex_call,hfz,h176,eq_false he,ne_eq,not_false_eq_true,decide_true,A176]
   have hbad:decodeL (s.drop at')=(65533,1):=by
    refine Classical.byContradiction fun hne => ?_
    have hw:=Go.Lib.decodeL_width (s.drop at')
    have hle:=Go.Lib.decodeL_le (s.drop at') hdr
    have h4:(decodeL (s.drop at')).2≤4:=by rw [Go.Lib.decodeL_N]; exact width4.2
    have hle':=hle
    rw [List.length_drop] at hle'
    have:=hno _ hw h4 (by omega)
    rw [byN_drop,(stand_iff hw h4 hle).2 ⟨hne,rfl⟩] at this
    cases this
   have:cntI s = -1:=by rw [cntI,hc,cntL_step hdr,if_pos hbad]; rfl
   rw [this]; rfl
 ·simp only [z2,↓reduceIte,Nat.reduceEqDiff,Nat.reduceAdd,Nat.reduceLeDiff,reduceCtorEq,q0,q3,q4,show decide (((at':Nat):Int)<(s.length:Int))=false from decide_eq_false (by omega),A176]
  have:cntI s=(i:Nat):=by rw [cntI,hc,List.drop_eq_nil_of_le (by omega),cntL_nil]; simp
  rw [this]; rfl
end
end Zv
namespace Zv
open Go
noncomputable section
open Go.Lib (decodeN decodeL)
theorem decodeD_L (s:List UInt8) (pos:Nat):decodeD s pos=decodeL (s.drop pos):=(Go.Lib.decodeL_drop ⟨s.toArray⟩ pos).symm
theorem c164 (n:Nat) {s:List UInt8} {m:Nat} (hm:cntL s=some m) (hs:s.length<4294967296):cl n 168 [.str s]=some (.int .i64 (m:Nat),true):=by
 rw [cl_run (A:=A168) rfl n _ rfl,show A168.body=B168 from rfl]
 simp only [B168,Ab.abq]
 simp only [z2,↓reduceIte,Nat.reduceEqDiff,Nat.reduceAdd,Nat.reduceLeDiff,reduceCtorEq]
 generalize hz:zloop KK _ _=rl
 refine zwhile rl hz s.length (KK_lt (by omega)) (fun i z=>∃ t st c pos,z=⟨t,st,c,[],none⟩∧pos≤s.length∧i≤pos∧tget t 2 = .int .i64 (i:Nat)∧tget t 4 = .it 0∧sget st 0=some (.iter s pos)∧∃ r,cntL (s.drop pos)=some r∧r+i=m)
  ⟨_,_,_,0,rfl,by omega,by omega,by simp [ex_val],by simp [ex_val],by simp [ex_val],m,hm,by omega⟩ ?_
 rintro i z hi ⟨t,st,c,pos,rfl,hp,hip,q2,q4,s0,r,hr,hrm⟩
 by_cases hlt:pos<s.length
 ·have hdr:s.drop pos≠[]:=fun h=>by have:=congrArg List.length h; rw [List.length_drop,List.length_nil] at this; omega
  have hle:=Go.Lib.decodeL_le (s.drop pos) hdr
  rw [List.length_drop] at hle
  have hw:=Go.Lib.decodeL_width (s.drop pos)
  simp only [z2,↓reduceIte,Nat.reduceEqDiff,Nat.reduceAdd,Nat.reduceLeDiff,reduceCtorEq,q2,q4,s0,show Nat.blt pos s.length=true from by simp [Nat.blt_eq,hlt],decodeD_L,inc_i64 (show i<9223372036854775807 by omega)]
  rw [cntL_step hdr] at hr
  split at hr
  ·cases hr
  ·simp only [Option.map_eq_some_iff,List.drop_drop] at hr
   obtain ⟨r',hr',rfl⟩:=hr
   exact ⟨by omega,_,_,_,pos+(decodeL (s.drop pos)).2,rfl,by omega,by omega,by simp [ex_val],by simp [ex_val,q4],by rw [sget_sset,if_pos rfl],r',hr',by omega⟩
 ·simp only [z2,↓reduceIte,Nat.reduceEqDiff,Nat.reduceAdd,Nat.reduceLeDiff,reduceCtorEq,q2,q4,s0,show Nat.blt pos s.length=false from by rw [←Bool.not_eq_true,Nat.blt_eq]; exact hlt,A168]
  rw [List.drop_eq_nil_of_le (by omega),cntL_nil] at hr
  cases hr
  rw [show i=m by omega]; rfl
/-! How many operands. -/
def arD (p:Int):D:=if p<1∨40<p then e2 0 2 else if p≤14 then e2 1 0 else e2 2 0
theorem c147 (n:Nat) (p:Int):cl n 177 [.int .i64 p]=some (arD p,true):=by
 rw [cl_run (A:=A177) rfl n _ rfl,show A177.body=B177 from rfl]
 unfold B177 arD
 by_cases h1:p<1
 ·simp only [z0,↓reduceIte,Nat.reduceEqDiff,Nat.reduceAdd,Nat.reduceLeDiff,reduceCtorEq,decide_eq_true h1,A177]
  rw [if_pos (.inl h1)]; rfl
 ·by_cases h2:40<p
  ·simp only [z0,↓reduceIte,Nat.reduceEqDiff,Nat.reduceAdd,Nat.reduceLeDiff,reduceCtorEq,decide_eq_false h1,decide_eq_true h2,A177]
   rw [if_pos (.inr h2)]; rfl
  ·by_cases h3:p≤14
   ·simp only [z0,↓reduceIte,Nat.reduceEqDiff,Nat.reduceAdd,Nat.reduceLeDiff,reduceCtorEq,decide_eq_false h1,decide_eq_false h2,decide_eq_true h3,A177]
    rw [if_neg (by omega),if_pos h3]; rfl
   ·simp only [z0,↓reduceIte,Nat.reduceEqDiff,Nat.reduceAdd,Nat.reduceLeDiff,reduceCtorEq,decide_eq_false h1,decide_eq_false h2,decide_eq_false h3,A177]
    rw [if_neg (by omega),if_neg h3]; rfl
def arOk (i:Nat) (x:Option (D × Bool)):Bool:=match x with
 | some (.tup [.int .i64 a,.int .i64 e],true)=>decide (e=0)&&decide (a=if i≤14 then 1 else 2)
 | _=>false
theorem ar163 (n:Nat):((List.range 40).all fun (i:Nat)=>arOk (i+1) (cl (n+4) 167 [.int .i64 ((i+1:Nat):Int)]))=true:=by kernel_rfl
theorem c213e (n:Nat) {p:Int} (h:p<1∨40<p):cl n 251 [.int .i64 p]=some (.tup [.agg [.str [],.nils,.nils,.nilfn,.nilfn],.int .i64 2],true):=by
 rw [cl_run (A:=A251) rfl n _ rfl,show A251.body=B251 from rfl]
 simp only [B251,Ab.abq]
 by_cases h1:p<1
 ·simp only [z0,↓reduceIte,Nat.reduceEqDiff,Nat.reduceAdd,Nat.reduceLeDiff,reduceCtorEq,decide_eq_true h1,A251]; rfl
 ·simp only [z0,↓reduceIte,Nat.reduceEqDiff,Nat.reduceAdd,Nat.reduceLeDiff,reduceCtorEq,decide_eq_false h1,decide_eq_true (show 40<p by omega),A251]; rfl
theorem c163 (n:Nat) (p:Int):cl (n+4) 167 [.int .i64 p]=some (arD p,true):=by
 by_cases h:p<1∨40<p
 ·rw [cl_run (A:=A167) rfl (n+4) _ rfl,show A167.body=B167 from rfl]
  simp only [B167,Ab.abq]
  simp only [z0,↓reduceIte,Nat.reduceEqDiff,Nat.reduceAdd,Nat.reduceLeDiff,reduceCtorEq,fn_pure (f:=251) rfl,ex_call,c213e (n+3) h,D.pures,D.pure,Int.reduceEq,ne_eq,not_false_eq_true,decide_true,A167]
  rw [arD,if_pos h]; rfl
 ·obtain ⟨k,hk,rfl⟩:∃ k:Nat,k<40∧p=((k+1:Nat):Int):=⟨(p-1).toNat,by omega,by omega⟩
  have:=List.all_eq_true.1 (ar163 n) k (List.mem_range.2 hk)
  unfold arOk at this
  split at this
  ·rename_i a e hx
   simp only [Bool.and_eq_true,decide_eq_true_eq] at this
   rw [hx,arD,if_neg h,this.1,this.2]
   by_cases h14:k+1≤14
   ·rw [if_pos (by omega),if_pos (by omega)]; rfl
   ·rw [if_neg (by omega),if_neg (by omega)]; rfl
  ·cases this
end
end Zv
namespace Zv
open Go Ab
noncomputable section
structure Nd where
 kind:Int
 prim:Int
 kids:Int
 name:List UInt8
 text:List UInt8
 n:Int
 site:Int
def nodeC (x:Nd):List D:=[.int .i64 x.kind,.int .i64 x.prim,.int .i64 x.kids,.str x.name,.str x.text,.int .i64 x.n,.int .i64 x.site]
def manyI (x:Nd):Int:=if x.kind=5∨x.kind=6 then x.kids else 0
theorem c148 (n:Nat) (x:Nd):cl n 178 [.agg (nodeC x)]=some (.int .i64 (manyI x),true):=by
 rw [cl_run (A:=A178) rfl n _ rfl,show A178.body=B178 from rfl]
 unfold B178 nodeC
 by_cases h5:x.kind=5
 ·have hm:manyI x=x.kids:=if_pos (.inl h5)
  simp only [z0,↓reduceIte,Nat.reduceEqDiff,Nat.reduceAdd,Nat.reduceLeDiff,reduceCtorEq,h5,decide_true,hm,A178]; rfl
 ·by_cases h6:x.kind=6
  ·have hm:manyI x=x.kids:=if_pos (.inr h6)
   simp only [z0,↓reduceIte,Nat.reduceEqDiff,Nat.reduceAdd,Nat.reduceLeDiff,reduceCtorEq,h6,Int.reduceEq,decide_true,decide_false,hm,A178]; rfl
  ·have hm:manyI x=0:=if_neg (fun h=>h.elim h5 h6)
   simp only [z0,↓reduceIte,Nat.reduceEqDiff,Nat.reduceAdd,Nat.reduceLeDiff,reduceCtorEq,eq_false h5,eq_false h6,decide_false,hm,A178]; rfl
theorem ar_cases (p:Int):(∃ a:Int,arD p=e2 a 0∧¬ (p<1∨40<p)∧a=if p≤14 then 1 else 2)∨(arD p=e2 0 2∧(p<1∨40<p)):=by
 unfold arD
 by_cases h:p<1∨40<p
 ·exact .inr ⟨if_pos h,h⟩
 ·by_cases h2:p≤14
  ·exact .inl ⟨1,by rw [if_neg h,if_pos h2],h,by rw [if_pos h2]⟩
  ·exact .inl ⟨2,by rw [if_neg h,if_neg h2],h,by rw [if_neg h2]⟩
def surB (x:Nd):Bool:=(!decide (x.kind=1) && !decide (x.n=0))||((!decide (x.kind=2) && !decide (x.text=[]))||((!decide (x.kind=4)&&(!decide (x.kind=6) && !decide (x.name=[])))||((!decide (x.kind=5) && !decide (x.prim=0))||((decide (x.kind=5)&&decide (x.prim<1∨40<x.prim))||((decide (x.kind=1)||(decide (x.kind=2)||decide (x.kind=4))) && !decide (x.kids=0))))))
theorem zbind_assoc (r:R) (f g:AS→R):zbind (zbind r f) g=zbind r fun x=>zbind (f x) g:=by
 cases r with
 | no=>rfl
 | ok o y=>cases o <;> rfl
theorem zOps_append (cx:Cx) (cl:CL) (b:List AOper):∀ (a:List AOper) (x:AS),zOps cx cl (a++b) x=zbind (zOps cx cl a x) (zOps cx cl b)
 | [],x=>rfl
 | o::a,x=>by
  rw [List.cons_append,zOps_cons,zOps_cons]
  split
  ·rfl
  ·rw [zbind_assoc]
   congr 1
   funext y
   exact zOps_append cx cl b a y
  ·exact zOps_append cx cl b a _
def G1:List AOper:=[f 11 0 1,l 12 11,d 13 .neq 12 (i 1),m 14 13,y 15 14 (.fa 5 (.t 1)),y 16 14 (.ld none (.t 15)),y 17 14 (.bin .neq (.t 16) (.c (i 0))),u 18 (.pick (.t 14) (.t 17) (.c (.bool false)))]
def G2:List AOper:=[m 19 18,n 20 19 (.fa 0 (.t 1)),n 21 19 (.ld none (.t 20)),n 22 19 (.bin .neq (.t 21) (.c (i 2))),mn 23 22 19,y 24 23 (.fa 4 (.t 1)),y 25 23 (.ld none (.t 24)),y 26 23 (.bin .neq (.t 25) (.c (.str []))),n 27 19 (.pick (.t 23) (.t 26) (.c (.bool false))),u 28 (.pick (.t 19) (.c (.bool true)) (.t 27))]
def G3:List AOper:=[m 29 28,n 30 29 (.fa 0 (.t 1)),n 31 29 (.ld none (.t 30)),n 32 29 (.bin .neq (.t 31) (.c (i 4))),mn 33 32 29,y 34 33 (.fa 0 (.t 1)),y 35 33 (.ld none (.t 34)),y 36 33 (.bin .neq (.t 35) (.c (i 6))),n 37 29 (.pick (.t 33) (.t 36) (.c (.bool false))),mn 38 37 29,y 39 38 (.fa 3 (.t 1)),y 40 38 (.ld none (.t 39)),y 41 38 (.bin .neq (.t 40) (.c (.str []))),n 42 29 (.pick (.t 38) (.t 41) (.c (.bool false))),u 43 (.pick (.t 29) (.c (.bool true)) (.t 42))]
def G4:List AOper:=[m 44 43,n 45 44 (.fa 0 (.t 1)),n 46 44 (.ld none (.t 45)),n 47 44 (.bin .neq (.t 46) (.c (i 5))),mn 48 47 44,y 49 48 (.fa 1 (.t 1)),y 50 48 (.ld none (.t 49)),y 51 48 (.bin .neq (.t 50) (.c (i 0))),n 52 44 (.pick (.t 48) (.t 51) (.c (.bool false))),u 53 (.pick (.t 44) (.c (.bool true)) (.t 52))]
def G5:List AOper:=[m 54 53,n 55 54 (.fa 0 (.t 1)),n 56 54 (.ld none (.t 55)),n 57 54 (.bin .eql (.t 56) (.c (i 5))),mn 58 57 54,my 59 4 58,y 60 58 (.bin .neq (.t 59) (.c (i 0))),n 61 54 (.pick (.t 58) (.t 60) (.c (.bool false))),u 62 (.pick (.t 54) (.c (.bool true)) (.t 61))]
def G6:List AOper:=[m 63 62,n 64 63 (.fa 0 (.t 1)),n 65 63 (.ld none (.t 64)),n 66 63 (.bin .eql (.t 65) (.c (i 1))),mn 67 66 63,n 68 67 (.fa 0 (.t 1)),n 69 67 (.ld none (.t 68)),n 70 67 (.bin .eql (.t 69) (.c (i 2))),n 71 63 (.pick (.t 67) (.c (.bool true)) (.t 70)),mn 72 71 63,n 73 72 (.fa 0 (.t 1)),n 74 72 (.ld none (.t 73)),n 75 72 (.bin .eql (.t 74) (.c (i 4))),n 76 63 (.pick (.t 72) (.c (.bool true)) (.t 75)),mn 77 76 63,y 78 77 (.fa 2 (.t 1)),y 79 77 (.ld none (.t 78)),y 80 77 (.bin .neq (.t 79) (.c (i 0))),n 81 63 (.pick (.t 77) (.t 80) (.c (.bool false))),u 82 (.pick (.t 63) (.c (.bool true)) (.t 81)),m 2 82]
theorem B145_eq:B175=(s (r [u 1 (.new 50 (.t 0)),c 2 (.bool false)]) (s (r [f 6 1 1,l 7 6,u 8 (.call 177 [(.t 7)]),m 5 8,e 9 0 5,e 10 1 5,m 3 9,m 4 10]) (s (.reg none (G1++(G2++(G3++(G4++(G5++G6)))))) .ret))):=rfl
def St145 (x:Nd) (st:St) (t:Tm) (er:Int):Prop:=sget st 0=some (.fix 50 (nodeC x))∧tget t 1 = .ptr 0 0∧tget t 4 = .int .i64 er
theorem p1 {cx:Cx} {cl:CL} {x:Nd} {st:St} {t:Tm} {c:Nat} {er:Int} (h:St145 x st t er):∃ t',zOps cx cl G1 ⟨t,st,c,[],none⟩ = .ok .normal ⟨t',st,c,[],none⟩∧St145 x st t' er∧tget t' 18 = .bool (!decide (x.kind=1) && !decide (x.n=0)):=by
 obtain ⟨s0,q1,q4⟩:=h
 unfold nodeC at s0
 unfold G1
 cases h1:decide (x.kind=1)
 ·cases h2:decide (x.n=0)
  ·simp only [z0,↓reduceIte,Nat.reduceEqDiff,Nat.reduceAdd,Nat.reduceLeDiff,reduceCtorEq,s0,q1,q4,Int.reduceEq,ne_eq,not_true_eq_false,not_false_eq_true,decide_true,decide_false,decide_not,Bool.not_true,Bool.not_false,h1,h2]
   exact ⟨_,rfl,⟨s0,by simp [ex_val,q1],by simp [ex_val,q4]⟩,by simp [ex_val]⟩
  ·simp only [z0,↓reduceIte,Nat.reduceEqDiff,Nat.reduceAdd,Nat.reduceLeDiff,reduceCtorEq,s0,q1,q4,Int.reduceEq,ne_eq,not_true_eq_false,not_false_eq_true,decide_true,decide_false,decide_not,Bool.not_true,Bool.not_false,h1,h2]
   exact ⟨_,rfl,⟨s0,by simp [ex_val,q1],by simp [ex_val,q4]⟩,by simp [ex_val]⟩
 ·simp only [z0,↓reduceIte,Nat.reduceEqDiff,Nat.reduceAdd,Nat.reduceLeDiff,reduceCtorEq,s0,q1,q4,Int.reduceEq,ne_eq,not_true_eq_false,not_false_eq_true,decide_true,decide_false,decide_not,Bool.not_true,Bool.not_false,h1]
  exact ⟨_,rfl,⟨s0,by simp [ex_val,q1],by simp [ex_val,q4]⟩,by simp [ex_val]⟩
theorem p2 {cx:Cx} {cl:CL} {x:Nd} {st:St} {t:Tm} {c:Nat} {er:Int} {b:Bool} (h:St145 x st t er) (hb:tget t 18 = .bool b):∃ t',zOps cx cl G2 ⟨t,st,c,[],none⟩ = .ok .normal ⟨t',st,c,[],none⟩∧St145 x st t' er∧tget t' 28 = .bool (b||(!decide (x.kind=2) && !decide (x.text=[]))):=by
 obtain ⟨s0,q1,q4⟩:=h
 unfold nodeC at s0
 unfold G2
 cases b
 ·cases h1:decide (x.kind=2)
  ·cases h2:decide (x.text=[])
   ·simp only [z0,↓reduceIte,Nat.reduceEqDiff,Nat.reduceAdd,Nat.reduceLeDiff,reduceCtorEq,s0,q1,q4,Int.reduceEq,ne_eq,not_true_eq_false,not_false_eq_true,decide_true,decide_false,decide_not,Bool.not_true,Bool.not_false,hb,h1,h2]
    exact ⟨_,rfl,⟨s0,by simp [ex_val,q1],by simp [ex_val,q4]⟩,by simp [ex_val]⟩
   ·simp only [z0,↓reduceIte,Nat.reduceEqDiff,Nat.reduceAdd,Nat.reduceLeDiff,reduceCtorEq,s0,q1,q4,Int.reduceEq,ne_eq,not_true_eq_false,not_false_eq_true,decide_true,decide_false,decide_not,Bool.not_true,Bool.not_false,hb,h1,h2]
    exact ⟨_,rfl,⟨s0,by simp [ex_val,q1],by simp [ex_val,q4]⟩,by simp [ex_val]⟩
  ·simp only [z0,↓reduceIte,Nat.reduceEqDiff,Nat.reduceAdd,Nat.reduceLeDiff,reduceCtorEq,s0,q1,q4,Int.reduceEq,ne_eq,not_true_eq_false,not_false_eq_true,decide_true,decide_false,decide_not,Bool.not_true,Bool.not_false,hb,h1]
   exact ⟨_,rfl,⟨s0,by simp [ex_val,q1],by simp [ex_val,q4]⟩,by simp [ex_val]⟩
 ·simp only [z0,↓reduceIte,Nat.reduceEqDiff,Nat.reduceAdd,Nat.reduceLeDiff,reduceCtorEq,s0,q1,q4,Int.reduceEq,ne_eq,not_true_eq_false,not_false_eq_true,decide_true,decide_false,decide_not,Bool.not_true,Bool.not_false,hb]
  exact ⟨_,rfl,⟨s0,by simp [ex_val,q1],by simp [ex_val,q4]⟩,by simp [ex_val]⟩
theorem p3 {cx:Cx} {cl:CL} {x:Nd} {st:St} {t:Tm} {c:Nat} {er:Int} {b:Bool} (h:St145 x st t er) (hb:tget t 28 = .bool b):∃ t',zOps cx cl G3 ⟨t,st,c,[],none⟩ = .ok .normal ⟨t',st,c,[],none⟩∧St145 x st t' er∧tget t' 43 = .bool (b||(!decide (x.kind=4)&&(!decide (x.kind=6) && !decide (x.name=[])))):=by
 obtain ⟨s0,q1,q4⟩:=h
 unfold nodeC at s0
 unfold G3
 cases b
 ·cases h1:decide (x.kind=4)
  ·cases h2:decide (x.kind=6)
   ·cases h3:decide (x.name=[])
    ·simp only [z0,↓reduceIte,Nat.reduceEqDiff,Nat.reduceAdd,Nat.reduceLeDiff,reduceCtorEq,s0,q1,q4,Int.reduceEq,ne_eq,not_true_eq_false,not_false_eq_true,decide_true,decide_false,decide_not,Bool.not_true,Bool.not_false,hb,h1,h2,h3]
     exact ⟨_,rfl,⟨s0,by simp [ex_val,q1],by simp [ex_val,q4]⟩,by simp [ex_val]⟩
    ·simp only [z0,↓reduceIte,Nat.reduceEqDiff,Nat.reduceAdd,Nat.reduceLeDiff,reduceCtorEq,s0,q1,q4,Int.reduceEq,ne_eq,not_true_eq_false,not_false_eq_true,decide_true,decide_false,decide_not,Bool.not_true,Bool.not_false,hb,h1,h2,h3]
     exact ⟨_,rfl,⟨s0,by simp [ex_val,q1],by simp [ex_val,q4]⟩,by simp [ex_val]⟩
   ·simp only [z0,↓reduceIte,Nat.reduceEqDiff,Nat.reduceAdd,Nat.reduceLeDiff,reduceCtorEq,s0,q1,q4,Int.reduceEq,ne_eq,not_true_eq_false,not_false_eq_true,decide_true,decide_false,decide_not,Bool.not_true,Bool.not_false,hb,h1,h2]
    exact ⟨_,rfl,⟨s0,by simp [ex_val,q1],by simp [ex_val,q4]⟩,by simp [ex_val]⟩
  ·simp only [z0,↓reduceIte,Nat.reduceEqDiff,Nat.reduceAdd,Nat.reduceLeDiff,reduceCtorEq,s0,q1,q4,Int.reduceEq,ne_eq,not_true_eq_false,not_false_eq_true,decide_true,decide_false,decide_not,Bool.not_true,Bool.not_false,hb,h1]
   exact ⟨_,rfl,⟨s0,by simp [ex_val,q1],by simp [ex_val,q4]⟩,by simp [ex_val]⟩
 ·simp only [z0,↓reduceIte,Nat.reduceEqDiff,Nat.reduceAdd,Nat.reduceLeDiff,reduceCtorEq,s0,q1,q4,Int.reduceEq,ne_eq,not_true_eq_false,not_false_eq_true,decide_true,decide_false,decide_not,Bool.not_true,Bool.not_false,hb]
  exact ⟨_,rfl,⟨s0,by simp [ex_val,q1],by simp [ex_val,q4]⟩,by simp [ex_val]⟩
theorem p4 {cx:Cx} {cl:CL} {x:Nd} {st:St} {t:Tm} {c:Nat} {er:Int} {b:Bool} (h:St145 x st t er) (hb:tget t 43 = .bool b):∃ t',zOps cx cl G4 ⟨t,st,c,[],none⟩ = .ok .normal ⟨t',st,c,[],none⟩∧St145 x st t' er∧tget t' 53 = .bool (b||(!decide (x.kind=5) && !decide (x.prim=0))):=by
 obtain ⟨s0,q1,q4⟩:=h
 unfold nodeC at s0
 unfold G4
 cases b
 ·cases h1:decide (x.kind=5)
  ·cases h2:decide (x.prim=0)
   ·simp only [z0,↓reduceIte,Nat.reduceEqDiff,Nat.reduceAdd,Nat.reduceLeDiff,reduceCtorEq,s0,q1,q4,Int.reduceEq,ne_eq,not_true_eq_false,not_false_eq_true,decide_true,decide_false,decide_not,Bool.not_true,Bool.not_false,hb,h1,h2]
    exact ⟨_,rfl,⟨s0,by simp [ex_val,q1],by simp [ex_val,q4]⟩,by simp [ex_val]⟩
   ·simp only [z0,↓reduceIte,Nat.reduceEqDiff,Nat.reduceAdd,Nat.reduceLeDiff,reduceCtorEq,s0,q1,q4,Int.reduceEq,ne_eq,not_true_eq_false,not_false_eq_true,decide_true,decide_false,decide_not,Bool.not_true,Bool.not_false,hb,h1,h2]
    exact ⟨_,rfl,⟨s0,by simp [ex_val,q1],by simp [ex_val,q4]⟩,by simp [ex_val]⟩
  ·simp only [z0,↓reduceIte,Nat.reduceEqDiff,Nat.reduceAdd,Nat.reduceLeDiff,reduceCtorEq,s0,q1,q4,Int.reduceEq,ne_eq,not_true_eq_false,not_false_eq_true,decide_true,decide_false,decide_not,Bool.not_true,Bool.not_false,hb,h1]
   exact ⟨_,rfl,⟨s0,by simp [ex_val,q1],by simp [ex_val,q4]⟩,by simp [ex_val]⟩
 ·simp only [z0,↓reduceIte,Nat.reduceEqDiff,Nat.reduceAdd,Nat.reduceLeDiff,reduceCtorEq,s0,q1,q4,Int.reduceEq,ne_eq,not_true_eq_false,not_false_eq_true,decide_true,decide_false,decide_not,Bool.not_true,Bool.not_false,hb]
  exact ⟨_,rfl,⟨s0,by simp [ex_val,q1],by simp [ex_val,q4]⟩,by simp [ex_val]⟩
theorem p5 {cx:Cx} {cl:CL} {x:Nd} {st:St} {t:Tm} {c:Nat} {er:Int} {b:Bool} (h:St145 x st t er) (hb:tget t 53 = .bool b):∃ t',zOps cx cl G5 ⟨t,st,c,[],none⟩ = .ok .normal ⟨t',st,c,[],none⟩∧St145 x st t' er∧tget t' 62 = .bool (b||(decide (x.kind=5) && !decide (er=0))):=by
 obtain ⟨s0,q1,q4⟩:=h
 unfold nodeC at s0
 unfold G5
 cases b
 ·cases h1:decide (x.kind=5)
  ·simp only [z0,↓reduceIte,Nat.reduceEqDiff,Nat.reduceAdd,Nat.reduceLeDiff,reduceCtorEq,s0,q1,q4,Int.reduceEq,ne_eq,not_true_eq_false,not_false_eq_true,decide_true,decide_false,decide_not,Bool.not_true,Bool.not_false,hb,h1]
   exact ⟨_,rfl,⟨s0,by simp [ex_val,q1],by simp [ex_val,q4]⟩,by simp [ex_val]⟩
  ·cases h2:decide (er=0)
   ·simp only [z0,↓reduceIte,Nat.reduceEqDiff,Nat.reduceAdd,Nat.reduceLeDiff,reduceCtorEq,s0,q1,q4,Int.reduceEq,ne_eq,not_true_eq_false,not_false_eq_true,decide_true,decide_false,decide_not,Bool.not_true,Bool.not_false,hb,h1,h2]
    exact ⟨_,rfl,⟨s0,by simp [ex_val,q1],by simp [ex_val,q4]⟩,by simp [ex_val]⟩
   ·simp only [z0,↓reduceIte,Nat.reduceEqDiff,Nat.reduceAdd,Nat.reduceLeDiff,reduceCtorEq,s0,q1,q4,Int.reduceEq,ne_eq,not_true_eq_false,not_false_eq_true,decide_true,decide_false,decide_not,Bool.not_true,Bool.not_false,hb,h1,h2]
    exact ⟨_,rfl,⟨s0,by simp [ex_val,q1],by simp [ex_val,q4]⟩,by simp [ex_val]⟩
 ·simp only [z0,↓reduceIte,Nat.reduceEqDiff,Nat.reduceAdd,Nat.reduceLeDiff,reduceCtorEq,s0,q1,q4,Int.reduceEq,ne_eq,not_true_eq_false,not_false_eq_true,decide_true,decide_false,decide_not,Bool.not_true,Bool.not_false,hb]
  exact ⟨_,rfl,⟨s0,by simp [ex_val,q1],by simp [ex_val,q4]⟩,by simp [ex_val]⟩
set_option maxHeartbeats 1000000 in
theorem p6 {cx:Cx} {cl:CL} {x:Nd} {st:St} {t:Tm} {c:Nat} {er:Int} {b:Bool} (h:St145 x st t er) (hb:tget t 62 = .bool b):∃ t',zOps cx cl G6 ⟨t,st,c,[],none⟩ = .ok .normal ⟨t',st,c,[],none⟩∧St145 x st t' er∧tget t' 2 = .bool (b||((decide (x.kind=1)||(decide (x.kind=2)||decide (x.kind=4))) && !decide (x.kids=0))):=by
 obtain ⟨s0,q1,q4⟩:=h
 unfold nodeC at s0
 unfold G6
 cases b
 ·cases h1:decide (x.kind=1)
  ·cases h2:decide (x.kind=2)
   ·cases h3:decide (x.kind=4)
    ·simp only [z0,↓reduceIte,Nat.reduceEqDiff,Nat.reduceAdd,Nat.reduceLeDiff,reduceCtorEq,s0,q1,q4,Int.reduceEq,ne_eq,not_true_eq_false,not_false_eq_true,decide_true,decide_false,decide_not,Bool.not_true,Bool.not_false,hb,h1,h2,h3]
     exact ⟨_,rfl,⟨s0,by simp [ex_val,q1],by simp [ex_val,q4]⟩,by simp [ex_val]⟩
    ·cases h4:decide (x.kids=0)
     ·simp only [z0,↓reduceIte,Nat.reduceEqDiff,Nat.reduceAdd,Nat.reduceLeDiff,reduceCtorEq,s0,q1,q4,Int.reduceEq,ne_eq,not_true_eq_false,not_false_eq_true,decide_true,decide_false,decide_not,Bool.not_true,Bool.not_false,hb,h1,h2,h3,h4]
      exact ⟨_,rfl,⟨s0,by simp [ex_val,q1],by simp [ex_val,q4]⟩,by simp [ex_val]⟩
     ·simp only [z0,↓reduceIte,Nat.reduceEqDiff,Nat.reduceAdd,Nat.reduceLeDiff,reduceCtorEq,s0,q1,q4,Int.reduceEq,ne_eq,not_true_eq_false,not_false_eq_true,decide_true,decide_false,decide_not,Bool.not_true,Bool.not_false,hb,h1,h2,h3,h4]
      exact ⟨_,rfl,⟨s0,by simp [ex_val,q1],by simp [ex_val,q4]⟩,by simp [ex_val]⟩
   ·cases h4:decide (x.kids=0)
    ·simp only [z0,↓reduceIte,Nat.reduceEqDiff,Nat.reduceAdd,Nat.reduceLeDiff,reduceCtorEq,s0,q1,q4,Int.reduceEq,ne_eq,not_true_eq_false,not_false_eq_true,decide_true,decide_false,decide_not,Bool.not_true,Bool.not_false,hb,h1,h2,h4]
     exact ⟨_,rfl,⟨s0,by simp [ex_val,q1],by simp [ex_val,q4]⟩,by simp [ex_val]⟩
    ·simp only [z0,↓reduceIte,Nat.reduceEqDiff,Nat.reduceAdd,Nat.reduceLeDiff,reduceCtorEq,s0,q1,q4,Int.reduceEq,ne_eq,not_true_eq_false,not_false_eq_true,decide_true,decide_false,decide_not,Bool.not_true,Bool.not_false,hb,h1,h2,h4]
     exact ⟨_,rfl,⟨s0,by simp [ex_val,q1],by simp [ex_val,q4]⟩,by simp [ex_val]⟩
  ·cases h4:decide (x.kids=0)
   ·simp only [z0,↓reduceIte,Nat.reduceEqDiff,Nat.reduceAdd,Nat.reduceLeDiff,reduceCtorEq,s0,q1,q4,Int.reduceEq,ne_eq,not_true_eq_false,not_false_eq_true,decide_true,decide_false,decide_not,Bool.not_true,Bool.not_false,hb,h1,h4]
    exact ⟨_,rfl,⟨s0,by simp [ex_val,q1],by simp [ex_val,q4]⟩,by simp [ex_val]⟩
   ·simp only [z0,↓reduceIte,Nat.reduceEqDiff,Nat.reduceAdd,Nat.reduceLeDiff,reduceCtorEq,s0,q1,q4,Int.reduceEq,ne_eq,not_true_eq_false,not_false_eq_true,decide_true,decide_false,decide_not,Bool.not_true,Bool.not_false,hb,h1,h4]
    exact ⟨_,rfl,⟨s0,by simp [ex_val,q1],by simp [ex_val,q4]⟩,by simp [ex_val]⟩
 ·simp only [z0,↓reduceIte,Nat.reduceEqDiff,Nat.reduceAdd,Nat.reduceLeDiff,reduceCtorEq,s0,q1,q4,Int.reduceEq,ne_eq,not_true_eq_false,not_false_eq_true,decide_true,decide_false,decide_not,Bool.not_true,Bool.not_false,hb]
  exact ⟨_,rfl,⟨s0,by simp [ex_val,q1],by simp [ex_val,q4]⟩,by simp [ex_val]⟩
theorem region145 {cx:Cx} {cl:CL} {x:Nd} {st:St} {t:Tm} {c:Nat} {er:Int} (h:St145 x st t er):∃ t',zOps cx cl (G1++(G2++(G3++(G4++(G5++G6))))) ⟨t,st,c,[],none⟩ = .ok .normal ⟨t',st,c,[],none⟩ ∧
  tget t' 2 = .bool ((((((!decide (x.kind=1) && !decide (x.n=0))||(!decide (x.kind=2) && !decide (x.text=[])))||(!decide (x.kind=4)&&(!decide (x.kind=6) && !decide (x.name=[]))))||(!decide (x.kind=5) && !decide (x.prim=0)))||(decide (x.kind=5) && !decide (er=0)))||((decide (x.kind=1)||(decide (x.kind=2)||decide (x.kind=4))) && !decide (x.kids=0))):=by
 obtain ⟨t1,e1,h1,b1⟩:=p1 (cx:=cx) (cl:=cl) (c:=c) h
 obtain ⟨t2,e2,h2,b2⟩:=p2 (cx:=cx) (cl:=cl) (c:=c) h1 b1
 obtain ⟨t3,e3,h3,b3⟩:=p3 (cx:=cx) (cl:=cl) (c:=c) h2 b2
 obtain ⟨t4,e4,h4,b4⟩:=p4 (cx:=cx) (cl:=cl) (c:=c) h3 b3
 obtain ⟨t5,e5,h5,b5⟩:=p5 (cx:=cx) (cl:=cl) (c:=c) h4 b4
 obtain ⟨t6,e6,h6,b6⟩:=p6 (cx:=cx) (cl:=cl) (c:=c) h5 b5
 refine ⟨t6,?_,b6⟩
 rw [zOps_append,e1]
 show zOps cx cl (G2++(G3++(G4++(G5++G6)))) _=_
 rw [zOps_append,e2]
 show zOps cx cl (G3++(G4++(G5++G6))) _=_
 rw [zOps_append,e3]
 show zOps cx cl (G4++(G5++G6)) _=_
 rw [zOps_append,e4]
 show zOps cx cl (G5++G6) _=_
 rw [zOps_append,e5]
 exact e6
theorem c145 (n:Nat) (x:Nd):cl (n+1) 175 [.agg (nodeC x)]=some (.bool (surB x),true):=by
 rw [cl_run (A:=A175) rfl (n+1) _ rfl,show A175.body=B175 from rfl,B145_eq]
 have hbool:∀ er:Int,decide (er=0) = !decide (x.prim<1∨40<x.prim)→((((((!decide (x.kind=1) && !decide (x.n=0))||(!decide (x.kind=2) && !decide (x.text=[])))||(!decide (x.kind=4)&&(!decide (x.kind=6) && !decide (x.name=[]))))||(!decide (x.kind=5) && !decide (x.prim=0)))||(decide (x.kind=5) && !decide (er=0)))||((decide (x.kind=1)||(decide (x.kind=2)||decide (x.kind=4))) && !decide (x.kids=0)))=surB x:=fun er h=>by
  rw [h,Bool.not_not,surB]; simp only [Bool.or_assoc]
 have hreg:∀ (cx:Cx) (cl:CL) (k:Nat) (l:List AOper) (y:AS),zC (.reg none l) cx cl k y=zOps cx cl l y:=fun _ _ _ _ _=>rfl
 have run:∀ er:Int,arD x.prim=e2 (match arD x.prim with | .tup [.int _ a,_]=>a|_=>0) er→decide (er=0) = !decide (x.prim<1∨40<x.prim)→pout (zbody (dfn (n+1) MM) A175 (zC B175 (cxn (n+1)) (fn (n+1) 4096) KK (start [.agg (nodeC x)] st0 0)))=some (.bool (surB x),true):=fun er hf her=>by
  rw [B145_eq]
  generalize (match arD x.prim with | .tup [.int _ a,_]=>a|_=>0)=a at hf
  have hn:isAg (D.agg (nodeC x))=true:=rfl
  unfold nodeC
  simp only [z0,↓reduceIte,Nat.reduceEqDiff,Nat.reduceAdd,Nat.reduceLeDiff,reduceCtorEq,fn_pure (f:=177) rfl,ex_call,c147,namesD_e2,hf]
  generalize hT:tput _ 4 _=T
  generalize hS:sadd st0 0 _=S
  have h1:tget T 1 = .ptr 0 0:=by rw [←hT]; simp [ex_val]
  have h4:tget T 4 = .int .i64 er:=by rw [←hT]; simp [ex_val]
  have s0:sget S 0=some (.fix 50 (nodeC x)):=by rw [←hS]; simp [ex_val,nodeC]
  obtain ⟨t',e',b'⟩:=region145 (cx:=cxn (n+1)) (cl:=fn (n+1) 4096) (c:=1) (er:=er) (x:=x) ⟨s0,h1,h4⟩
  rw [e',hbool er her] at *
  simp only [z0,↓reduceIte,Nat.reduceEqDiff,Nat.reduceAdd,Nat.reduceLeDiff,reduceCtorEq,b',A175]
  rfl
 rcases ar_cases x.prim with ⟨a,hf,hr,_⟩|⟨hf,hr⟩
 ·exact B145_eq ▸ run 0 (by rw [hf]; rfl) (by simp [hr])
 ·exact B145_eq ▸ run 2 (by rw [hf]; rfl) (by simp [hr])
end
end Zv
