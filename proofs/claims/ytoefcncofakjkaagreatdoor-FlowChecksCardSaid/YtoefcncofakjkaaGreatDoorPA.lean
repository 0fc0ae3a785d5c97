/- What functions come to: the bottom of a lattice. Conditions: none. -/
import Derived.Test.YtoefcncofakjkaaGreatDoorLA
import Derived.Test.YtoefcncofakjkaaGreatDoorNA
set_option linter.unusedVariables false
set_option linter.unusedSimpArgs false
set_option maxRecDepth 100000
namespace Zv
open Go
noncomputable section
def popT:List UInt8:=[0,1,1,2,1,2,2,3,1,2,2,3,2,3,3,4,1,2,2,3,2,3,3,4,2,3,3,4,3,4,4,5,1,2,2,3,2,3,3,4,2,3,3,4,3,4,4,5,2,3,3,4,3,4,4,5,3,4,4,5,4,5,5,6,1,2,2,3,2,3,3,4,2,3,3,4,3,4,4,5,2,3,3,4,3,4,4,5,3,4,4,5,4,5,5,6,2,3,3,4,3,4,4,5,3,4,4,5,4,5,5,6,3,4,4,5,4,5,5,6,4,5,5,6,5,6,6,7,1,2,2,3,2,3,3,4,2,3,3,4,3,4,4,5,2,3,3,4,3,4,4,5,3,4,4,5,4,5,5,6,2,3,3,4,3,4,4,5,3,4,4,5,4,5,5,6,3,4,4,5,4,5,5,6,4,5,5,6,5,6,6,7,2,3,3,4,3,4,4,5,3,4,4,5,4,5,5,6,3,4,4,5,4,5,5,6,4,5,5,6,5,6,6,7,3,4,4,5,4,5,5,6,4,5,5,6,5,6,6,7,4,5,5,6,5,6,6,7,5,6,6,7,6,7,7,8]
def pop (u:Nat):Nat:=(popT.getD u 0).toNat
theorem c124 (n:Nat) {u:Nat} (hu:u<256):cl n 188 [.int .u8 (u:Int)]=some (.int .i64 (pop u:Nat),true):=by
 rw [cl_run (A:=A188) rfl n _ rfl,show A188.body=B188 from rfl]
 simp only [B188,Ab.abq]
 have hl:u<popT.length:=hu
 have hi:idxD popT.length (.int .u8 (u:Int))=some u:=idxD_nat hl
 have hg:popT[u]?=some popT[u]:=List.getElem?_eq_getElem hl
 have hp:pop u=popT[u].toNat:=by rw [pop,lgetD hl]
 have hb:=popT[u].toNat_lt
 rw [show (D.str [0,1,1,2,1,2,2,3,1,2,2,3,2,3,3,4,1,2,2,3,2,3,3,4,2,3,3,4,3,4,4,5,1,2,2,3,2,3,3,4,2,3,3,4,3,4,4,5,2,3,3,4,3,4,4,5,3,4,4,5,4,5,5,6,1,2,2,3,2,3,3,4,2,3,3,4,3,4,4,5,2,3,3,4,3,4,4,5,3,4,4,5,4,5,5,6,2,3,3,4,3,4,4,5,3,4,4,5,4,5,5,6,3,4,4,5,4,5,5,6,4,5,5,6,5,6,6,7,1,2,2,3,2,3,3,4,2,3,3,4,3,4,4,5,2,3,3,4,3,4,4,5,3,4,4,5,4,5,5,6,2,3,3,4,3,4,4,5,3,4,4,5,4,5,5,6,3,4,4,5,4,5,5,6,4,5,5,6,5,6,6,7,2,3,3,4,3,4,4,5,3,4,4,5,4,5,5,6,3,4,4,5,4,5,5,6,4,5,5,6,5,6,6,7,3,4,4,5,4,5,5,6,4,5,5,6,5,6,6,7,4,5,5,6,5,6,6,7,5,6,6,7,6,7,7,8])=D.str popT from rfl]
 simp only [z0,seval,hi,hg,wrapD_i64 (show -9223372036854775808≤(popT[u].toNat:Int) by omega) (by omega),A188]
 rw [hp]; rfl
def lowP (us:List Nat) (i:Nat):Option Int:=if us.getD i 0=2 ^ us.length-1 then some (i:Int) else none
def lowI (us:List Nat):Int:=scan (lowP us) 0 us.length 0
theorem c100 (n:Nat) {ss:List (List UInt8)} {us:List Nat} {d e:D} (hd:Sl 1 strC ss d) (he:Sl 1 u8C us e) (hu:Bytes8 us) (h1:1≤us.length) (h8:us.length≤8):cl n 66 [.agg [d,e]]=some (.int .i64 (lowI us),true):=by
 rw [cl_run (A:=A66) rfl n _ rfl,show A66.body=B66 from rfl]
 simp only [B66,Ab.abq]
 obtain ⟨v,hv,hw⟩:=all_i64 us.length h1 h8
 simp only [z0,seval,hd.nag,he.nag]
 generalize hz:zloop KK _ _=rl
 refine zfor rl hz us.length (KK_lt (by omega)) (by omega) (fun i t s c=>sget s 0=some (.fix 26 [d,e])∧tget t 1 = .ptr 0 0∧∀ j,j<i→lowP us j=none) (by simp [ex_val]) (by simp [ex_val]) ?_
 rintro i t s c hi ⟨s0,q1,hn⟩ q3
 by_cases hlt:i<us.length
 ·have hx:=hu _ (List.getElem_mem hlt)
  have hwi:wrapD .i64 (us[i]:Int)=us[i]:=wrapD_i64 (by omega) (by omega)
  by_cases hq:us[i]=2 ^ us.length-1
  ·have hp:lowP us i=some (i:Int):=by rw [lowP,lgetD hlt,if_pos hq]
   simp only [z2,seval,s0,q1,q3,he.len,lt_dec hlt,zipO,killT,zAny_w,zAny_g,AOp.kd,step_mv,step_pick,step_fa,step_iaS,step_ld,step_bin,step_len,step_cvI,st_cvI,List.take_zero,List.all_nil,he.ia1 hlt,he.at1 hlt,u8C,List.getElem?_cons_zero,hwi,hv,hw,show decide ((us[i]:Int)=((2 ^ us.length-1:Nat):Int))=true from decide_eq_true (by omega),A66]
   rw [lowI,scan_at hlt hp hn]; rfl
  ·have hp:lowP us i=none:=by rw [lowP,lgetD hlt,if_neg hq]
   simp only [z2,seval,s0,q1,q3,he.len,lt_dec hlt,zipO,killT,zAny_w,zAny_g,AOp.kd,step_mv,step_pick,step_fa,step_iaS,step_ld,step_bin,step_len,step_cvI,st_cvI,List.take_zero,List.all_nil,he.ia1 hlt,he.at1 hlt,u8C,List.getElem?_cons_zero,hwi,hv,hw,show decide ((us[i]:Int)=((2 ^ us.length-1:Nat):Int))=false from decide_eq_false (by omega)]
   refine ⟨hlt,trivial,trivial,trivial,trivial,trivial,none_step hn hp⟩
 ·simp only [z2,seval,s0,q1,q3,he.len,ge_dec (show us.length≤i by omega),A66]
  rw [lowI,scan_end fun j hj=>hn j (by omega)]; rfl
def endP (f:Nat→Nat) (n i:Nat):Option Int:=if n≤i+1∨n≤pop (f i) then some (i:Int) else none
def endI (f:Nat→Nat) (n:Nat):Int:=scan (endP f n) 0 n 0
theorem c82 (n:Nat) {f:Nat→Nat} (hf:∀ i,f i<256) {k:Nat} (h1:1≤k) (h8:k≤8):cl (n+1) 116 [.agg (row8 f),.int .i64 (k:Nat)]=some (.int .i64 (endI f k),true):=by
 rw [cl_run (A:=A116) rfl (n+1) _ rfl,show A116.body=B116 from rfl]
 simp only [B116,Ab.abq]
 have hsub:wrapD .i64 ((k:Int)-1)=((k-1:Nat):Int):=by rw [wrapD_i64 (by omega) (by omega)]; omega
 have hnag:isAg (D.agg (row8 f))=true:=rfl
 simp only [z1,seval]
 generalize hz:zloop KK _ _=rl
 refine zwhile rl hz k (KK_lt (by omega)) (fun i z=>∃ t s c,z=⟨t,s,c,[],none⟩∧sget s 0=some (.fix 146 (row8 f))∧tget t 1 = .int .i64 (k:Nat)∧tget t 2 = .ptr 0 0∧tget t 5 = .int .i64 (i:Nat)∧i<k∧∀ j,j<i→endP f k j=none)
  ⟨_,_,_,rfl,by simp [ex_val],by simp [ex_val],by simp [ex_val],by simp [ex_val],h1,nofun⟩ ?_
 rintro i z hi ⟨t,s,c,rfl,s0,q1,q2,q5,hik,hn⟩
 have hrow:=row8_at f (k:=i) (by omega)
 have hidx:idxD 8 (.int .i64 (i:Int))=some i:=idxD_nat (by omega)
 by_cases hlast:k≤i+1
 ·have hp:endP f k i=some (i:Int):=by rw [endP,if_pos (.inl hlast)]
  simp only [z1,seval,q1,q2,q5,hsub,show decide ((i:Int)<((k-1:Nat):Int))=false from decide_eq_false (by omega),A116]
  rw [endI,scan_at hik hp hn]; rfl
 ·have h124:=c124 n (hf i)
  by_cases hq:k≤pop (f i)
  ·have hp:endP f k i=some (i:Int):=by rw [endP,if_pos (.inr hq)]
   simp only [z1,seval,q1,q2,q5,s0,hsub,hidx,hrow,Nat.mul_one,Nat.zero_add,show decide ((i:Int)<((k-1:Nat):Int))=true from decide_eq_true (by omega),fn_pure (f:=188) rfl,ex_call,h124,show decide (((pop (f i):Nat):Int)<(k:Int))=false from decide_eq_false (by omega),A116]
   rw [endI,scan_at hik hp hn]; rfl
  ·have hp:endP f k i=none:=by rw [endP,if_neg (fun h=>h.elim hlast hq)]
   simp only [z1,seval,q1,q2,q5,s0,hsub,hidx,hrow,Nat.mul_one,Nat.zero_add,show decide ((i:Int)<((k-1:Nat):Int))=true from decide_eq_true (by omega),fn_pure (f:=188) rfl,ex_call,h124,show decide (((pop (f i):Nat):Int)<(k:Int))=true from decide_eq_true (by omega),inc_i64 (show i<9223372036854775807 by omega)]
   exact ⟨by omega,_,_,_,rfl,s0,by simp [ex_val,q1],by simp [ex_val,q2],by simp [ex_val],by omega,none_step hn hp⟩
theorem c80 (n:Nat) {ss:List (List UInt8)} {us:List Nat} {d e:D} (hd:Sl 1 strC ss d) (he:Sl 1 u8C us e) (hu:Bytes8 us) (hs:Small ss) {x er:Int} (hC:CHK ss us=e2 x er):cl (n+6) 115 [.iptr [d,e] 0,.nils]=some (.int .i64 er,true):=by
 rw [cl_run (A:=A115) rfl (n+6) _ rfl,show A115.body=B115 from rfl]
 simp only [B115,Ab.abq]
 have htk:takeAt [d,e] 0 (some 2)=some (.agg [d,e]):=rfl
 have h59:=c59 n hd he hu hs
 rw [hC] at h59
 by_cases h0:er=0
 ·subst h0
  simp only [z2,seval,htk,fn_pure (f:=29) rfl,ex_call,hd.fz,he.fz,h59,namesD_e2,ne_eq,not_true_eq_false,decide_false,eq_self,show lenD false .nils=some 0 from rfl]
  generalize hz:zloop KK _ _=rl
  refine zrange rl hz 0 (KK_lt (by decide)) (by decide) (fun i t s c=>True) (by decide) (by simp [ex_val]) (by simp [ex_val]) trivial (fun i t s c hi=>absurd hi (by omega)) ?_
  rintro t s c _ hti htn
  simp only [z2,seval,hti,htn,A115]
  rfl
 ·simp only [z2,seval,htk,fn_pure (f:=29) rfl,ex_call,hd.fz,he.fz,h59,namesD_e2,ne_eq,eq_false h0,not_false_eq_true,decide_true,A115]
  rfl
theorem c43 (n:Nat) {ss:List (List UInt8)} {us:List Nat} {d e:D} (hd:Sl 1 strC ss d) (he:Sl 1 u8C us e) (hu:Bytes8 us) (hs:Small ss) (hC:CHK ss us=e2 0 0) (hul:us.length=ss.length) (h1:1≤ss.length) (h8:ss.length≤8):cl (n+7) 70 [.agg [d,e]]=some (e2 (endI (uM us) ss.length) 0,true):=by
 rw [cl_run (A:=A70) rfl (n+7) _ rfl,show A70.body=B70 from rfl]
 simp only [B70,Ab.abq]
 have h80:=c80 n hd he hu hs hC
 have h81:=c81 (n+6) hd he hu h8 (by omega)
 have h82:=c82 (n+5) (uM_lt hu) h1 h8
 have htk:takeAt (ord17 ss.length (uM us) (dnM (uM us) ss.length us.length)) 1 (some 8)=some (.agg (row8 (uM us))):=rfl
 have h0:(ord17 ss.length (uM us) (dnM (uM us) ss.length us.length))[0]?=some (.int .i64 (ss.length:Nat)):=rfl
 simp only [z2,seval,hd.nag,he.nag,fn_pure (f:=115) rfl,fn_pure (f:=53) rfl,fn_pure (f:=116) rfl,ex_call,hd.fz,he.fz,h80,h81,h82,htk,h0,ne_eq,not_true_eq_false,decide_false,eq_self,ord17_len,ord17_st _ _ _ [_,_,_,_,_,_,_,_,_,_,_,_,_,_,_,_,_] rfl,frz_row8,Option.map_some,Option.bind_some,A70]
 rfl
end
end Zv
namespace Zv
open Go
noncomputable section
theorem c68 (n:Nat) {us:List Nat} {d e:D} (hdn:isAg d=false) (hdf:∀ k s,frz false (k+1) s d=some d) (he:Sl 1 u8C us e) (hu:Bytes8 us) {a:Nat} (ha:a<us.length) (b:Nat) (hb:b<9223372036854775807) {r:Bool}
  (h56:cl n 101 [.agg [d,e],.int .i64 (a:Nat),.int .i64 (b:Nat)]=some (.bool r,true)):cl (n+1) 67 [.agg [d,e],.int .i64 (a:Nat),.int .i64 (b:Nat)]=some (.bool r,true):=by
 rw [cl_run (A:=A67) rfl (n+1) _ rfl,show A67.body=B67 from rfl]
 simp only [B67,Ab.abq]
 have htk:takeAt [d,e] 0 (some 2)=some (.agg [d,e]):=rfl
 simp only [z2,seval,hdn,he.nag,htk,fn_pure (f:=101) rfl,ex_call,hdf,he.fz,h56,A67]
 rfl
theorem c74 (n:Nat) {ss:List (List UInt8)} {d e:D} (hd:Sl 1 strC ss d) (hen:isAg e=false) (b a:Int):cl n 92 [.agg [d,e,.int .i64 b],.int .i64 a]=some (.bool (decide (0≤a)&&decide (a<(ss.length:Int))),true):=by
 rw [cl_run (A:=A92) rfl n _ rfl,show A92.body=B92 from rfl]
 simp only [B92,Ab.abq]
 cases h1:decide (0≤a)
 ·simp only [z0,seval,hd.nag,hen,h1,A92]; rfl
 ·simp only [z0,seval,hd.nag,hen,h1,hd.len,A92]; rfl
theorem c72 (n:Nat) {ss:List (List UInt8)} {us:List Nat} {d e:D} (hd:Sl 1 strC ss d) (he:Sl 1 u8C us e) (hu:Bytes8 us) (hs:Small ss) (hC:CHK ss us=e2 0 0) (hul:us.length=ss.length) (h1:1≤ss.length) (h8:ss.length≤8):∃ f,cl (n+8) 58 [.agg [d,e]]=some (.tup [.agg [d,e,.int .i64 (endI (uM us) ss.length)],.int .i64 0],f):=by
 rw [cl_run (A:=A58) rfl (n+8) _ rfl,show A58.body=B58 from rfl]
 simp only [B58,Ab.abq]
 have htk:takeAt [d,e] 0 (some 2)=some (.agg [d,e]):=rfl
 have h59:=c59 (n+2) hd he hu hs
 rw [hC] at h59
 have h43:=c43 n hd he hu hs hC hul h1 h8
 simp only [z0,seval,hd.nag,he.nag,htk,fn_pure (f:=29) rfl,fn_pure (f:=70) rfl,ex_call,hd.fz,he.fz,h59,h43,namesD_e2,ne_eq,not_true_eq_false,decide_false,eq_self,A58]
 rcases hd.2 with ⟨rfl,_⟩|⟨ex,rfl⟩ <;> rcases he.2 with ⟨rfl,_⟩|⟨ex',rfl⟩ <;> exact ⟨_,rfl⟩
theorem c116 (n:Nat) {us:List Nat} {d e:D} (hdn:isAg d=false) (he:Sl 1 u8C us e) (hu:Bytes8 us) (b0:Int) {a:Nat} (ha:a<us.length) (b:Nat):cl n 94 [.agg [d,e,.int .i64 b0],.int .i64 (a:Nat),.int .i64 (b:Nat)]=some (.bool ((uM us a).testBit b),true):=by
 rw [cl_run (A:=A94) rfl n _ rfl,show A94.body=B94 from rfl]
 simp only [B94,Ab.abq]
 have hx:us[a]=uM us a:=(lgetD ha 0).symm
 have hlt:uM us a >>> b<256:=Nat.lt_of_le_of_lt (Nat.shiftRight_le _ _) (uM_lt hu a)
 have hand:binD .and (.int .u8 ((uM us a >>> b:Nat):Int)) (.int .u8 1)=some (.int .u8 ((uM us a >>> b&&&1:Nat):Int)):=b_and_u8 (y:=1) hlt (by decide)
 have hbit:decide (((uM us a >>> b&&&1:Nat):Int)=1)=(uM us a).testBit b:=by
  rw [Nat.testBit_eq_decide_div_mod_eq,Nat.and_one_is_mod,Nat.shiftRight_eq_div_pow,Bool.eq_iff_iff,decide_eq_true_eq,decide_eq_true_eq]; omega
 simp only [z0,seval,hdn,he.nag,he.ia1 ha,he.at1 ha,u8C,List.getElem?_cons_zero,hx,b_shr_u8 b (uM_lt hu a),hand,hbit,A94]
 rfl
end
end Zv
namespace Zv
open Go
noncomputable section
theorem zop:type_of% @zAny_w∧type_of% @zAny_g∧type_of% @step_mv∧type_of% @step_pick∧type_of% @step_fa∧type_of% @step_iaA∧type_of% @step_iaS∧type_of% @step_ld∧type_of% @step_bin∧type_of% @step_un∧type_of% @step_cmp∧type_of% @step_len∧type_of% @step_slV∧type_of% @step_ext∧type_of% @step_cvI∧type_of% @step_bld:=
 ⟨@zAny_w,@zAny_g,@step_mv,@step_pick,@step_fa,@step_iaA,@step_iaS,@step_ld,@step_bin,@step_un,@step_cmp,@step_len,@step_slV,@step_ext,@step_cvI,@step_bld⟩
theorem tks {α:Type}:(∀ l:List α,l.take 0=[])∧(∀ (n:Nat) (a:α) l,(a::l).take (n+1)=a::l.take n)∧(∀ p:α→Bool,[].all p=true)∧(∀ (p:α→Bool) a l,(a::l).all p=(p a&&l.all p)):=
 ⟨fun _=>rfl,fun _ _ _=>rfl,fun _=>rfl,fun _ _ _=>rfl⟩
theorem nb:((True:Prop)=True)∧(∀ p:Prop,[Decidable p]→decide (¬ p) = !decide p)∧(∀ a b:Int,(a≠b)=¬ (a=b))∧(decide True=true)∧(decide False=false)∧((¬ True)=False)∧((¬ False)=True)∧((!true)=false)∧((!false)=true):=
 ⟨rfl,fun p=>by simp,fun _ _=>rfl,rfl,rfl,by simp,by simp,rfl,rfl⟩
end
end Zv
namespace Zv
open Go
noncomputable section
structure Ty where
 kind:Int
 rank:Int
 a0:Int
 a1:Int
 data:Int
def tyC (t:Ty):List D:=[.int .i64 t.kind,.int .i64 t.rank,.int .i64 t.a0,.int .i64 t.a1,.int .i64 t.data]
def labB (n:Nat) (a:Int):Bool:=decide (0≤a)&&decide (a<(n:Int))
def leqB (us:List Nat) (a b:Int):Bool:=(uM us a.toNat).testBit b.toNat
def tyE (us:List Nat) (low:Int) (t:Ty):Int:=
 if (t.kind≠1∧t.kind≠2)∨t.rank<0∨2<t.rank then 7 else
 if labB us.length t.a0=false∨labB us.length t.a1=false∨labB us.length t.data=false then 7 else
 if (t.rank=0∧t.a0≠low)∨(t.rank≤1∧t.a1≠low) then 6 else
 if (1≤t.rank∧leqB us t.a0 t.data=false)∨(t.rank=2∧leqB us t.a1 t.data=false) then 25 else 0
set_option maxHeartbeats 2000000 in
theorem c55 (n:Nat) {ss:List (List UInt8)} {us:List Nat} {d e:D} (hd:Sl 1 strC ss d) (he:Sl 1 u8C us e) (hu:Bytes8 us) (hul:us.length=ss.length) (h1:1≤us.length) (h8:us.length≤8) (t:Ty):cl (n+2) 38 [.agg [d,e],.agg (tyC t)]=some (.int .i64 (tyE us (lowI us) t),true):=by
 rw [cl_run (A:=A38) rfl (n+2) _ rfl,show A38.body=B38 from rfl]
 simp only [B38,Ab.abq]
 have htk:takeAt [d,e] 0 (some 2)=some (.agg [d,e]):=rfl
 have h47:∀ a:Int,cl (n+1) 21 [.agg [d,e],.int .i64 a]=some (.bool (labB us.length a),true):=fun a=>by rw [c47 (n+1) hd he a,labB,hul]
 have h100:=c100 (n+1) hd he hu h1 h8
 by_cases hk:t.kind≠1∧t.kind≠2
 ·have hE:tyE us (lowI us) t=7:=if_pos (.inl hk)
  rw [hE]; unfold tyC
  simp only [z2,seval,hd.nag,he.nag,decide_eq_false hk.1,decide_eq_false hk.2,Int.reduceLT,Int.reduceLE,Int.reduceEq,ne_eq,not_true_eq_false,not_false_eq_true,decide_true,decide_false,decide_not,Bool.not_true,Bool.not_false,A38]; rfl
 have hk':t.kind=1∨t.kind=2:=by omega
 by_cases hr0:t.rank<0
 ·have hE:tyE us (lowI us) t=7:=if_pos (.inr (.inl hr0))
  rw [hE]; unfold tyC
  rcases hk' with k|k <;> simp only [z2,seval,hd.nag,he.nag,k,decide_eq_true hr0,Int.reduceLT,Int.reduceLE,Int.reduceEq,ne_eq,not_true_eq_false,not_false_eq_true,decide_true,decide_false,decide_not,Bool.not_true,Bool.not_false,A38] <;> rfl
 by_cases hr2:2<t.rank
 ·have hE:tyE us (lowI us) t=7:=if_pos (.inr (.inr hr2))
  rw [hE]; unfold tyC
  rcases hk' with k|k <;> simp only [z2,seval,hd.nag,he.nag,k,decide_eq_false hr0,decide_eq_true hr2,Int.reduceLT,Int.reduceLE,Int.reduceEq,ne_eq,not_true_eq_false,not_false_eq_true,decide_true,decide_false,decide_not,Bool.not_true,Bool.not_false,A38] <;> rfl
 have hE1:tyE us (lowI us) t=if labB us.length t.a0=false∨labB us.length t.a1=false∨labB us.length t.data=false then 7 else
   if (t.rank=0∧t.a0≠lowI us)∨(t.rank≤1∧t.a1≠lowI us) then 6 else
   if (1≤t.rank∧leqB us t.a0 t.data=false)∨(t.rank=2∧leqB us t.a1 t.data=false) then 25 else 0:=if_neg (by omega)
 rw [hE1]
 have i0:idxD 2 (.int .i64 0)=some 0:=rfl
 have i1:idxD 2 (.int .i64 1)=some 1:=rfl
 cases l0:labB us.length t.a0
 ·rw [if_pos (.inl rfl)]; unfold tyC
  rcases hk' with k|k <;> simp only [z2,seval,hd.nag,he.nag,k,decide_eq_false hr0,decide_eq_false hr2,htk,i0,i1,fn_pure (f:=21) rfl,ex_call,hd.fz,he.fz,h47,l0,Int.reduceLT,Int.reduceLE,Int.reduceEq,ne_eq,not_true_eq_false,not_false_eq_true,decide_true,decide_false,decide_not,Bool.not_true,Bool.not_false,A38] <;> rfl
 cases l1:labB us.length t.a1
 ·rw [if_pos (.inr (.inl rfl))]; unfold tyC
  rcases hk' with k|k <;> simp only [z2,seval,hd.nag,he.nag,k,decide_eq_false hr0,decide_eq_false hr2,htk,i0,i1,fn_pure (f:=21) rfl,ex_call,hd.fz,he.fz,h47,l0,l1,Int.reduceLT,Int.reduceLE,Int.reduceEq,ne_eq,not_true_eq_false,not_false_eq_true,decide_true,decide_false,decide_not,Bool.not_true,Bool.not_false,A38] <;> rfl
 cases ld:labB us.length t.data
 ·rw [if_pos (.inr (.inr rfl))]; unfold tyC
  rcases hk' with k|k <;> simp only [z2,seval,hd.nag,he.nag,k,decide_eq_false hr0,decide_eq_false hr2,htk,i0,i1,fn_pure (f:=21) rfl,ex_call,hd.fz,he.fz,h47,l0,l1,ld,Int.reduceLT,Int.reduceLE,Int.reduceEq,ne_eq,not_true_eq_false,not_false_eq_true,decide_true,decide_false,decide_not,Bool.not_true,Bool.not_false,A38] <;> rfl
 rw [if_neg (fun h=>by rcases h with h|h|h <;> cases h)]
 obtain ⟨kd,rk,a0,a1,dt⟩:=t
 dsimp only at *
 have w:∀ a:Int,labB us.length a=true→∃ x:Nat,a=x∧x<us.length:=fun a h=>by
  rw [labB,Bool.and_eq_true,decide_eq_true_eq,decide_eq_true_eq] at h
  exact ⟨a.toNat,by omega,by omega⟩
 obtain ⟨x0,rfl,g0⟩:=w _ l0
 obtain ⟨x1,rfl,g1⟩:=w _ l1
 obtain ⟨xd,rfl,gd⟩:=w _ ld
 have h68:∀ a b:Nat,a<us.length→b<us.length→cl (n+1) 67 [.agg [d,e],.int .i64 (a:Nat),.int .i64 (b:Nat)]=some (.bool (leqB us (a:Nat) (b:Nat)),true):=fun a b ha hb=>
  c68 n hd.nag hd.fz he hu ha b (by omega) (c56 n hd.nag he hu ha b)
 have q0:=h68 x0 xd g0 gd
 have q1:=h68 x1 xd g1 gd
 clear w h68 hE1
 generalize lowI us=lw at *
 generalize leqB us (x0:Nat) (xd:Nat)=b0 at *
 generalize leqB us (x1:Nat) (xd:Nat)=b1 at *
 generalize (x0:Int)=y0 at *
 generalize (x1:Int)=y1 at *
 generalize (xd:Int)=yd at *
 unfold tyC
 have hr:rk=0∨rk=1∨rk=2:=by omega
 by_cases e1:y1=lw
 ·rcases hr with rfl|rfl|rfl
  ·by_cases e0:y0=lw
   ·rw [if_neg (by simp [e0,e1]),if_neg (by simp)]
    rcases hk' with rfl|rfl <;> simp only [z2,seval,hd.nag,he.nag,zun,zipO,killT,AOp.kd,zop,tks,sameStep,sd_or,show wrapD .i64 1=1 from rfl,show wrapD .i64 2=2 from rfl,htk,i0,i1,fn_pure (f:=21) rfl,fn_pure (f:=66) rfl,fn_pure (f:=67) rfl,ex_call,hd.fz,he.fz,h47,h100,l0,l1,ld,Int.reduceLT,Int.reduceLE,Int.reduceEq,Int.reduceAdd,ne_eq,not_true_eq_false,not_false_eq_true,decide_true,decide_false,decide_not,Bool.not_true,Bool.not_false,A38,decide_eq_true e0,decide_eq_true e1] <;> rfl
   ·rw [if_pos (.inl ⟨rfl,e0⟩)]
    rcases hk' with rfl|rfl <;> simp only [z2,seval,hd.nag,he.nag,zun,zipO,killT,AOp.kd,zop,tks,sameStep,sd_or,show wrapD .i64 1=1 from rfl,show wrapD .i64 2=2 from rfl,htk,i0,i1,fn_pure (f:=21) rfl,fn_pure (f:=66) rfl,fn_pure (f:=67) rfl,ex_call,hd.fz,he.fz,h47,h100,l0,l1,ld,Int.reduceLT,Int.reduceLE,Int.reduceEq,Int.reduceAdd,ne_eq,not_true_eq_false,not_false_eq_true,decide_true,decide_false,decide_not,Bool.not_true,Bool.not_false,A38,decide_eq_false e0] <;> rfl
  ·rw [if_neg (by simp [e1])]
   cases b0
   ·rw [if_pos (by simp)]
    rcases hk' with rfl|rfl <;> simp only [z2,seval,hd.nag,he.nag,zun,zipO,killT,AOp.kd,zop,tks,sameStep,sd_or,show wrapD .i64 1=1 from rfl,show wrapD .i64 2=2 from rfl,htk,i0,i1,fn_pure (f:=21) rfl,fn_pure (f:=66) rfl,fn_pure (f:=67) rfl,ex_call,hd.fz,he.fz,h47,h100,l0,l1,ld,Int.reduceLT,Int.reduceLE,Int.reduceEq,Int.reduceAdd,ne_eq,not_true_eq_false,not_false_eq_true,decide_true,decide_false,decide_not,Bool.not_true,Bool.not_false,A38,decide_eq_true e1,q0] <;> rfl
   ·rw [if_neg (by simp)]
    rcases hk' with rfl|rfl <;> simp only [z2,seval,hd.nag,he.nag,zun,zipO,killT,AOp.kd,zop,tks,sameStep,sd_or,show wrapD .i64 1=1 from rfl,show wrapD .i64 2=2 from rfl,htk,i0,i1,fn_pure (f:=21) rfl,fn_pure (f:=66) rfl,fn_pure (f:=67) rfl,ex_call,hd.fz,he.fz,h47,h100,l0,l1,ld,Int.reduceLT,Int.reduceLE,Int.reduceEq,Int.reduceAdd,ne_eq,not_true_eq_false,not_false_eq_true,decide_true,decide_false,decide_not,Bool.not_true,Bool.not_false,A38,decide_eq_true e1,q0] <;> rfl
  ·rw [if_neg (by simp)]
   cases b0
   ·rw [if_pos (by simp)]
    rcases hk' with rfl|rfl <;> simp only [z2,seval,hd.nag,he.nag,zun,zipO,killT,AOp.kd,zop,tks,sameStep,sd_or,show wrapD .i64 1=1 from rfl,show wrapD .i64 2=2 from rfl,htk,i0,i1,fn_pure (f:=21) rfl,fn_pure (f:=66) rfl,fn_pure (f:=67) rfl,ex_call,hd.fz,he.fz,h47,h100,l0,l1,ld,Int.reduceLT,Int.reduceLE,Int.reduceEq,Int.reduceAdd,ne_eq,not_true_eq_false,not_false_eq_true,decide_true,decide_false,decide_not,Bool.not_true,Bool.not_false,A38,q0,q1] <;> rfl
   cases b1
   ·rw [if_pos (by simp)]
    rcases hk' with rfl|rfl <;> simp only [z2,seval,hd.nag,he.nag,zun,zipO,killT,AOp.kd,zop,tks,sameStep,sd_or,show wrapD .i64 1=1 from rfl,show wrapD .i64 2=2 from rfl,htk,i0,i1,fn_pure (f:=21) rfl,fn_pure (f:=66) rfl,fn_pure (f:=67) rfl,ex_call,hd.fz,he.fz,h47,h100,l0,l1,ld,Int.reduceLT,Int.reduceLE,Int.reduceEq,Int.reduceAdd,ne_eq,not_true_eq_false,not_false_eq_true,decide_true,decide_false,decide_not,Bool.not_true,Bool.not_false,A38,q0,q1] <;> rfl
   ·rw [if_neg (by simp)]
    rcases hk' with rfl|rfl <;> simp only [z2,seval,hd.nag,he.nag,zun,zipO,killT,AOp.kd,zop,tks,sameStep,sd_or,show wrapD .i64 1=1 from rfl,show wrapD .i64 2=2 from rfl,htk,i0,i1,fn_pure (f:=21) rfl,fn_pure (f:=66) rfl,fn_pure (f:=67) rfl,ex_call,hd.fz,he.fz,h47,h100,l0,l1,ld,Int.reduceLT,Int.reduceLE,Int.reduceEq,Int.reduceAdd,ne_eq,not_true_eq_false,not_false_eq_true,decide_true,decide_false,decide_not,Bool.not_true,Bool.not_false,A38,q0,q1] <;> rfl
 ·rcases hr with rfl|rfl|rfl
  ·rw [if_pos (.inr ⟨by decide,e1⟩)]
   by_cases e0:y0=lw
   ·rcases hk' with rfl|rfl <;> simp only [z2,seval,hd.nag,he.nag,zun,zipO,killT,AOp.kd,zop,tks,sameStep,sd_or,show wrapD .i64 1=1 from rfl,show wrapD .i64 2=2 from rfl,htk,i0,i1,fn_pure (f:=21) rfl,fn_pure (f:=66) rfl,fn_pure (f:=67) rfl,ex_call,hd.fz,he.fz,h47,h100,l0,l1,ld,Int.reduceLT,Int.reduceLE,Int.reduceEq,Int.reduceAdd,ne_eq,not_true_eq_false,not_false_eq_true,decide_true,decide_false,decide_not,Bool.not_true,Bool.not_false,A38,decide_eq_true e0,decide_eq_false e1] <;> rfl
   ·rcases hk' with rfl|rfl <;> simp only [z2,seval,hd.nag,he.nag,zun,zipO,killT,AOp.kd,zop,tks,sameStep,sd_or,show wrapD .i64 1=1 from rfl,show wrapD .i64 2=2 from rfl,htk,i0,i1,fn_pure (f:=21) rfl,fn_pure (f:=66) rfl,fn_pure (f:=67) rfl,ex_call,hd.fz,he.fz,h47,h100,l0,l1,ld,Int.reduceLT,Int.reduceLE,Int.reduceEq,Int.reduceAdd,ne_eq,not_true_eq_false,not_false_eq_true,decide_true,decide_false,decide_not,Bool.not_true,Bool.not_false,A38,decide_eq_false e0] <;> rfl
  ·rw [if_pos (.inr ⟨by decide,e1⟩)]
   rcases hk' with rfl|rfl <;> simp only [z2,seval,hd.nag,he.nag,zun,zipO,killT,AOp.kd,zop,tks,sameStep,sd_or,show wrapD .i64 1=1 from rfl,show wrapD .i64 2=2 from rfl,htk,i0,i1,fn_pure (f:=21) rfl,fn_pure (f:=66) rfl,fn_pure (f:=67) rfl,ex_call,hd.fz,he.fz,h47,h100,l0,l1,ld,Int.reduceLT,Int.reduceLE,Int.reduceEq,Int.reduceAdd,ne_eq,not_true_eq_false,not_false_eq_true,decide_true,decide_false,decide_not,Bool.not_true,Bool.not_false,A38,decide_eq_false e1] <;> rfl
  ·rw [if_neg (by simp)]
   cases b0
   ·rw [if_pos (by simp)]
    rcases hk' with rfl|rfl <;> simp only [z2,seval,hd.nag,he.nag,zun,zipO,killT,AOp.kd,zop,tks,sameStep,sd_or,show wrapD .i64 1=1 from rfl,show wrapD .i64 2=2 from rfl,htk,i0,i1,fn_pure (f:=21) rfl,fn_pure (f:=66) rfl,fn_pure (f:=67) rfl,ex_call,hd.fz,he.fz,h47,h100,l0,l1,ld,Int.reduceLT,Int.reduceLE,Int.reduceEq,Int.reduceAdd,ne_eq,not_true_eq_false,not_false_eq_true,decide_true,decide_false,decide_not,Bool.not_true,Bool.not_false,A38,q0,q1] <;> rfl
   cases b1
   ·rw [if_pos (by simp)]
    rcases hk' with rfl|rfl <;> simp only [z2,seval,hd.nag,he.nag,zun,zipO,killT,AOp.kd,zop,tks,sameStep,sd_or,show wrapD .i64 1=1 from rfl,show wrapD .i64 2=2 from rfl,htk,i0,i1,fn_pure (f:=21) rfl,fn_pure (f:=66) rfl,fn_pure (f:=67) rfl,ex_call,hd.fz,he.fz,h47,h100,l0,l1,ld,Int.reduceLT,Int.reduceLE,Int.reduceEq,Int.reduceAdd,ne_eq,not_true_eq_false,not_false_eq_true,decide_true,decide_false,decide_not,Bool.not_true,Bool.not_false,A38,q0,q1] <;> rfl
   ·rw [if_neg (by simp)]
    rcases hk' with rfl|rfl <;> simp only [z2,seval,hd.nag,he.nag,zun,zipO,killT,AOp.kd,zop,tks,sameStep,sd_or,show wrapD .i64 1=1 from rfl,show wrapD .i64 2=2 from rfl,htk,i0,i1,fn_pure (f:=21) rfl,fn_pure (f:=66) rfl,fn_pure (f:=67) rfl,ex_call,hd.fz,he.fz,h47,h100,l0,l1,ld,Int.reduceLT,Int.reduceLE,Int.reduceEq,Int.reduceAdd,ne_eq,not_true_eq_false,not_false_eq_true,decide_true,decide_false,decide_not,Bool.not_true,Bool.not_false,A38,q0,q1] <;> rfl
end
end Zv
