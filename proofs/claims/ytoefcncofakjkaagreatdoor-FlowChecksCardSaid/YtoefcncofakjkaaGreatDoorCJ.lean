/- Running abstract code by rewriting: laws of the evaluator. Conditions: none. -/
import Derived.Test.YtoefcncofakjkaaGreatDoorCH
import Derived.Test.YtoefcncofakjkaaGreatDoorCI
set_option linter.unusedVariables false
set_option linter.unusedSimpArgs false
namespace Zv
open Go
noncomputable section
def zcond (v:D) (p q:R):R:=match v with
 | .bool r=>bif r then p else q
 | _ => .no
@[congr] theorem zcond_congr {v v':D} (h:v=v') (p q:R):zcond v p q=zcond v' p q:=by rw [h]
@[congr] theorem zbind_congr {r r':R} (h:r=r') (K:AS→R):zbind r K=zbind r' K:=by rw [h]
def zblkR (id:Nat) (r:R):R:=R.rec .no (zblk id) r
section
variable (cx:Cx) (cl:CL) (k:Nat) (x:AS)
theorem zC_cond (c:Arg) (a b:AC):zC (.cond c a b) cx cl k x=zcond (c.ev cx.G x.t) (zC a cx cl k x) (zC b cx cl k x):=by
 show zc_cond c a b (zC a) (zC b) cx cl k x=_
 unfold zc_cond zcond
 cases c.ev cx.G x.t <;> try rfl
 rename_i r; cases r <;> rfl
end
theorem ex_code:(∀ (cx:Cx) (cl:CL) (k:Nat) (x:AS),zC .skip cx cl k x = .ok .normal x) ∧
  (∀ (cx:Cx) (cl:CL) (k:Nat) (x:AS) (ops:List AOper),zC (.reg none ops) cx cl k x=zOps cx cl ops x) ∧
  (∀ (cx:Cx) (cl:CL) (k:Nat) (x:AS) (a b:AC),zC (.seq a b) cx cl k x=zbind (zC a cx cl k x) (zC b cx cl k)) ∧
  (∀ (cx:Cx) (cl:CL) (k:Nat) (x:AS) (c:Arg) (a b:AC),zC (.cond c a b) cx cl k x=zcond (c.ev cx.G x.t) (zC a cx cl k x) (zC b cx cl k x)) ∧
  (∀ (cx:Cx) (cl:CL) (k:Nat) (x:AS) (i:Nat) (a:AC),zC (.block i a) cx cl k x=zblkR i (zC a cx cl k x)) ∧
  (∀ (cx:Cx) (cl:CL) (k:Nat) (x:AS) (a:AC),zC (.loop a) cx cl k x=zloop k (zC a cx cl k) x) ∧
  (∀ (cx:Cx) (cl:CL) (k:Nat) (x:AS) (i:Nat),zC (.exit i) cx cl k x = .ok (.exit i) x) ∧
  (∀ (cx:Cx) (cl:CL) (k:Nat) (x:AS) (a:AC),zC (.scope a) cx cl k x=zC a cx cl k x) ∧
  (∀ (cx:Cx) (cl:CL) (k:Nat) (x:AS),zC .ret cx cl k x = .ok .ret x) ∧
  (∀ (p q:R),zcond (.bool true) p q=p)∧(∀ (p q:R),zcond (.bool false) p q=q) ∧
  (∀ (x:AS) (K:AS→R),zbind (.ok .normal x) K=K x)∧(∀ (i:Nat) (x:AS) (K:AS→R),zbind (.ok (.exit i) x) K = .ok (.exit i) x) ∧
  (∀ (x:AS) (K:AS→R),zbind (.ok .ret x) K = .ok .ret x)∧(∀ (c:Ch) (x:AS) (K:AS→R),zbind (.ok (.pan c) x) K = .ok (.pan c) x) ∧
  (∀ (K:AS→R),zbind .no K = .no) ∧
  (∀ (i:Nat) (x:AS),zblkR i (.ok .normal x) = .ok .normal x)∧(∀ (i:Nat) (x:AS),zblkR i (.ok .ret x) = .ok .ret x)∧(∀ (i:Nat) (c:Ch) (x:AS),zblkR i (.ok (.pan c) x) = .ok (.pan c) x) ∧
  (∀ (i j:Nat) (x:AS),zblkR i (.ok (.exit j) x)=if j=i then .ok .normal x else .ok (.exit j) x) ∧
  (∀ (cx:Cx) (cl:CL) (x:AS),zOps cx cl [] x = .ok .normal x) ∧
  (∀ (cx:Cx) (cl:CL) (x:AS) (dst:Option Nat) (op:AOp) (r:List AOper),zOps cx cl (⟨dst,op,none⟩::r) x=zbind (zOp cx cl ⟨dst,op,none⟩ x) (zOps cx cl r)):=by
 refine ⟨fun _ _ _ _=>rfl,fun _ _ _ _ _=>rfl,fun _ _ _ _ _ _=>rfl,zC_cond,fun _ _ _ _ _ _=>rfl,fun _ _ _ _ _=>rfl,fun _ _ _ _ _=>rfl,fun _ _ _ _ _=>rfl,fun _ _ _ _=>rfl,
  fun _ _=>rfl,fun _ _=>rfl,fun _ _=>rfl,fun _ _ _=>rfl,fun _ _=>rfl,fun _ _ _=>rfl,fun _=>rfl,fun _ _=>rfl,fun _ _=>rfl,fun _ _ _=>rfl,fun i j x => ?_,fun _ _ _=>rfl,fun _ _ _ _ _ _=>rfl⟩
 show (Bool.rec (.ok (.exit j) x) (.ok .normal x) (Nat.beq j i):R)=_
 by_cases h:j=i
 ·subst h; simp
 ·rw [if_neg h,beq_ne h]
theorem ex_op:(∀ cx cl dst g x a0,zOp cx cl ⟨dst,.mv a0,g⟩ x=zval dst (st_mv a0 cx.G x)) ∧
  (∀ cx cl dst g x a0 a1 a2,zOp cx cl ⟨dst,.pick a0 a1 a2,g⟩ x=zval dst (st_pick a0 a1 a2 cx.G x)) ∧
  (∀ cx cl dst g x a0 a1,zOp cx cl ⟨dst,.new a0 a1,g⟩ x=zval dst (st_new a0 a1 cx.G x)) ∧
  (∀ cx cl dst g x a0 a1,zOp cx cl ⟨dst,.ld a0 a1,g⟩ x=zval dst (st_ld a0 a1 cx.G x)) ∧
  (∀ cx cl dst g x a0 a1 a2,zOp cx cl ⟨dst,.st a0 a1 a2,g⟩ x=zval dst (st_st a0 a1 a2 cx.G x)) ∧
  (∀ cx cl dst g x a0 a1,zOp cx cl ⟨dst,.fa a0 a1,g⟩ x=zval dst (st_fa a0 a1 cx.G x)) ∧
  (∀ cx cl dst g x a0 a1 a2 a3,zOp cx cl ⟨dst,.iaA a0 a1 a2 a3,g⟩ x=zval dst (st_iaA a0 a1 a2 a3 cx.G x)) ∧
  (∀ cx cl dst g x a0 a1 a2,zOp cx cl ⟨dst,.iaS a0 a1 a2,g⟩ x=zval dst (st_iaS a0 a1 a2 cx.G x)) ∧
  (∀ cx cl dst g x a0 a1 a2 a3 a4,zOp cx cl ⟨dst,.ixA a0 a1 a2 a3 a4,g⟩ x=zval dst (st_ixA a0 a1 a2 a3 a4 cx.G x)) ∧
  (∀ cx cl dst g x a0 a1,zOp cx cl ⟨dst,.ixS a0 a1,g⟩ x=zval dst (st_ixS a0 a1 cx.G x)) ∧
  (∀ cx cl dst g x a0 a1 a2,zOp cx cl ⟨dst,.fld a0 a1 a2,g⟩ x=zval dst (st_fld a0 a1 a2 cx.G x)) ∧
  (∀ cx cl dst g x a0 a1,zOp cx cl ⟨dst,.ext a0 a1,g⟩ x=zval dst (st_ext a0 a1 cx.G x)) ∧
  (∀ cx cl dst g x a0 a1 a2,zOp cx cl ⟨dst,.bin a0 a1 a2,g⟩ x=zval dst (st_bin a0 a1 a2 cx.G x)) ∧
  (∀ cx cl dst g x a0 a1 a2 a3,zOp cx cl ⟨dst,.cmp a0 a1 a2 a3,g⟩ x=zval dst (st_cmp a0 a1 a2 a3 cx.G x)) ∧
  (∀ cx cl dst g x a0 a1,zOp cx cl ⟨dst,.un a0 a1,g⟩ x=zval dst (st_un a0 a1 cx.G x)) ∧
  (∀ cx cl dst g x a0 a1,zOp cx cl ⟨dst,.bld a0 a1,g⟩ x=zval dst (st_bld a0 a1 cx.G x)) ∧
  (∀ cx cl dst g x a0 a1 a2 a3,zOp cx cl ⟨dst,.bsl a0 a1 a2 a3,g⟩ x=zval dst (st_bsl a0 a1 a2 a3 cx.G x)) ∧
  (∀ cx cl dst g x a0 a1 a2 a3 a4,zOp cx cl ⟨dst,.mks a0 a1 a2 a3 a4,g⟩ x=zval dst (st_mks a0 a1 a2 a3 a4 cx.G x)) ∧
  (∀ cx cl dst g x a0 a1 a2,zOp cx cl ⟨dst,.slS a0 a1 a2,g⟩ x=zval dst (st_slS a0 a1 a2 cx.G x)) ∧
  (∀ cx cl dst g x a0 a1 a2 a3 a4,zOp cx cl ⟨dst,.slV a0 a1 a2 a3 a4,g⟩ x=zval dst (st_slV a0 a1 a2 a3 a4 cx.G x)) ∧
  (∀ cx cl dst g x a0 a1 a2 a3 a4 a5,zOp cx cl ⟨dst,.slA a0 a1 a2 a3 a4 a5,g⟩ x=zval dst (st_slA a0 a1 a2 a3 a4 a5 cx.G x)) ∧
  (∀ cx cl dst g x a0 a1,zOp cx cl ⟨dst,.len a0 a1,g⟩ x=zval dst (st_len a0 a1 cx.G x)) ∧
  (∀ cx cl dst g x a0,zOp cx cl ⟨dst,.cap a0,g⟩ x=zval dst (st_cap a0 cx.G x)) ∧
  (∀ cx cl dst g x a0 a1 a2 a3 a4,zOp cx cl ⟨dst,.app a0 a1 a2 a3 a4,g⟩ x=zval dst (st_app a0 a1 a2 a3 a4 cx.G x)) ∧
  (∀ cx cl dst g x a0 a1 a2,zOp cx cl ⟨dst,.copy a0 a1 a2,g⟩ x=zval dst (st_copy a0 a1 a2 cx.G x)) ∧
  (∀ cx cl dst g x a0 a1,zOp cx cl ⟨dst,.cvI a0 a1,g⟩ x=zval dst (st_cvI a0 a1 cx.G x)) ∧
  (∀ cx cl dst g x a0,zOp cx cl ⟨dst,.cvN a0,g⟩ x=zval dst (st_cvN a0 cx.G x)) ∧
  (∀ cx cl dst g x a0,zOp cx cl ⟨dst,.cvB a0,g⟩ x=zval dst (st_cvB a0 cx.G x)) ∧
  (∀ cx cl dst g x a0,zOp cx cl ⟨dst,.cvS a0,g⟩ x=zval dst (st_cvS a0 cx.G x)) ∧
  (∀ cx cl dst g x a0 a1,zOp cx cl ⟨dst,.mkif a0 a1,g⟩ x=zval dst (st_mkif a0 a1 cx.G x)) ∧
  (∀ cx cl dst g x a0 a1 a2,zOp cx cl ⟨dst,.mkfn a0 a1 a2,g⟩ x=zval dst (st_mkfn a0 a1 a2 cx.G x)) ∧
  (∀ cx cl dst g x a0,zOp cx cl ⟨dst,.nilc a0,g⟩ x=zval dst (st_nilc a0 cx.G x)) ∧
  (∀ cx cl dst g x a0,zOp cx cl ⟨dst,.rng a0,g⟩ x=zval dst (st_rng a0 cx.G x)) ∧
  (∀ cx cl dst g x a0,zOp cx cl ⟨dst,.next a0,g⟩ x=zval dst (st_next a0 cx.G x)) ∧
  (∀ cx cl dst g x a0 a1 a2,zOp cx cl ⟨dst,.mm a0 a1 a2,g⟩ x=zval dst (st_mm a0 a1 a2 cx.G x)) ∧
  (∀ cx cl dst g x ,zOp cx cl ⟨dst,.mkm ,g⟩ x=zval dst (st_mkm  cx.G x)) ∧
  (∀ cx cl dst g x a0 a1 a2 a3 a4,zOp cx cl ⟨dst,.mlk a0 a1 a2 a3 a4,g⟩ x=zval dst (st_mlk a0 a1 a2 a3 a4 cx.G x)) ∧
  (∀ cx cl dst g x a0 a1 a2 a3,zOp cx cl ⟨dst,.mup a0 a1 a2 a3,g⟩ x=zval dst (st_mup a0 a1 a2 a3 cx.G x)) ∧
  (∀ cx cl dst g x a0 a1 a2 a3,zOp cx cl ⟨dst,.men a0 a1 a2 a3,g⟩ x=zval dst (st_men a0 a1 a2 a3 cx.G x)) ∧
  (∀ cx cl dst g x a0 a1 a2,zOp cx cl ⟨dst,.mst a0 a1 a2,g⟩ x=zval dst (st_mst a0 a1 a2 cx.G x)) ∧
  (∀ cx cl dst g x a0,zOp cx cl ⟨dst,.mln a0,g⟩ x=zval dst (st_mln a0 cx.G x)) ∧
  (∀ cx cl dst g x a0,zOp cx cl ⟨dst,.rgm a0,g⟩ x=zval dst (st_rgm a0 cx.G x)) ∧
  (∀ cx cl dst g x a0,zOp cx cl ⟨dst,.nxm a0,g⟩ x=zval dst (st_nxm a0 cx.G x)) ∧
  (∀ cx cl dst g x a0,zOp cx cl ⟨dst,.ent a0,g⟩ x=zval dst (st_ent a0 cx.G x)) ∧
  (∀ cx cl dst g x a0 a1 a2 a3,zOp cx cl ⟨dst,.tas a0 a1 a2 a3,g⟩ x=zval dst (st_tas a0 a1 a2 a3 cx.G x)) ∧
  (∀ cx cl dst g x a0 a1 a2,zOp cx cl ⟨dst,.tai a0 a1 a2,g⟩ x=zval dst (st_tai a0 a1 a2 cx.G x)) ∧
  (∀ cx cl dst g x a0 a1,zOp cx cl ⟨dst,.xl a0 a1,g⟩ x=zval dst (st_xl a0 a1 cx.G x)) ∧
  (∀ cx cl dst g x a0 a1,zOp cx cl ⟨dst,.xa a0 a1,g⟩ x=zval dst (st_xa a0 a1 cx.G x)):=by
 refine ⟨?_,?_,?_,?_,?_,?_,?_,?_,?_,?_,?_,?_,?_,?_,?_,?_,?_,?_,?_,?_,?_,?_,?_,?_,?_,?_,?_,?_,?_,?_,?_,?_,?_,?_,?_,?_,?_,?_,?_,?_,?_,?_,?_,?_,?_,?_,?_,?_⟩ <;> intros <;> rfl
def iaSD (sz:Nat) (d i:D):Option D:=match d with
 | .sl _ len cs=>(idxD len i).map fun k => .iptr cs (k*sz)
 | .ms nm off z len _=>(idxD len i).bind fun k=>bif Nat.beq z sz then some (.ptr nm (off+k*sz)) else none
 | .gs nm off z len=>(idxD len i).bind fun k=>bif Nat.beq z sz then some (.ptr nm (off+k*sz)) else none
 | _=>none
def slVD (sz:Nat) (d:D) (l h m:Option D):Option D:=match d with
  | .nils=>do
   let m ←bndO 0 0 m
   let h ←bndO m 0 h
   let _ ←bndO h 0 l
   some .nils
  | .sl ex len cs=>do
   let m' ←bndO len len m
   let h' ←bndO m' len h
   let l' ←bndO h' 0 l
   bif Nat.ble (h'*sz) cs.length then
    some (.sl ((m.isSome&&Nat.beq m' h')||(m.isNone&&ex&&Nat.beq h' len)) (h'-l') ((cs.drop (l'*sz)).take ((h'-l')*sz)))
   else none
  | .ms nm off z len c=>do
   let m ←bndO c c m
   let h ←bndO m len h
   let l ←bndO h 0 l
   bif Nat.beq z sz then some (.ms nm (bif Nat.beq m l then off else off+l*sz) z (h-l) (m-l)) else none
  | .gs nm off z len=>match m with
   | none=>do
    let h ←bndO len len h
    let l ←bndO h 0 l
    bif Nat.beq z sz then
     (bif Nat.beq l 0 then some (.gs nm off z h) else bif Nat.blt l h then some (.gs nm (off+l*sz) z (h-l)) else some (.sl false 0 []))
    else none
   | some m=>do
    let m ←bndD len m
    let h ←bndO m len h
    let l ←bndO h 0 l
    bif Nat.beq z sz&&Nat.blt 0 len then some (.ms nm (bif Nat.beq m l then off else off+l*sz) z (h-l) (m-l)) else none
  | _=>none
theorem st_iaS_eq (sz:Nat) (a i:Arg) (G:List (Nat × List D)) (x:AS):st_iaS sz a i G x=(iaSD sz (a.ev G x.t) (i.ev G x.t)).map fun d=>(d,x):=by
 unfold st_iaS iaSD
 cases a.ev G x.t <;> dsimp only <;> try rfl
 ·rename_i ex len cs; cases idxD len (i.ev G x.t) <;> rfl
 ·rename_i nm off z len c; cases idxD len (i.ev G x.t) <;> try rfl
  cases hb:Nat.beq z sz <;> rfl
 ·rename_i nm off z len; cases idxD len (i.ev G x.t) <;> try rfl
  cases hb:Nat.beq z sz <;> rfl
theorem st_slV_eq (sz:Nat) (a:Arg) (l h m:Option Arg) (G:List (Nat × List D)) (x:AS):st_slV sz a l h m G x=(slVD sz (a.ev G x.t) (l.map (·.ev G x.t)) (h.map (·.ev G x.t)) (m.map (·.ev G x.t))).map fun d=>(d,x):=by
 unfold st_slV slVD
 cases a.ev G x.t <;> dsimp only <;> try rfl
 ·cases bndO 0 0 (m.map (·.ev G x.t)) <;> try rfl
  rename_i m'; simp only [Option.bind_eq_bind,Option.bind_some]
  cases bndO m' 0 (h.map (·.ev G x.t)) <;> try rfl
  rename_i h'; simp only [Option.bind_some]
  cases bndO h' 0 (l.map (·.ev G x.t)) <;> rfl
 ·rename_i ex len cs
  cases bndO len len (m.map (·.ev G x.t)) <;> try rfl
  rename_i m'; simp only [Option.bind_eq_bind,Option.bind_some]
  cases bndO m' len (h.map (·.ev G x.t)) <;> try rfl
  rename_i h'; simp only [Option.bind_some]
  cases bndO h' 0 (l.map (·.ev G x.t)) <;> try rfl
  rename_i l'; simp only [Option.bind_some,Option.isSome_map,Option.isNone_map]
  cases hb:Nat.ble (h'*sz) cs.length <;> rfl
 ·rename_i nm off z len c
  cases bndO c c (m.map (·.ev G x.t)) <;> try rfl
  rename_i m'; simp only [Option.bind_eq_bind,Option.bind_some]
  cases bndO m' len (h.map (·.ev G x.t)) <;> try rfl
  rename_i h'; simp only [Option.bind_some]
  cases bndO h' 0 (l.map (·.ev G x.t)) <;> try rfl
  simp only [Option.bind_some]
  cases hb:Nat.beq z sz <;> rfl
 ·rename_i nm off z len
  cases m with
  | none=>
   simp only [Option.map_none]
   cases bndO len len (h.map (·.ev G x.t)) <;> try rfl
   rename_i h'; simp only [Option.bind_eq_bind,Option.bind_some]
   cases bndO h' 0 (l.map (·.ev G x.t)) <;> try rfl
   rename_i l'; simp only [Option.bind_some]
   cases hb:Nat.beq z sz <;> cases hc:Nat.beq l' 0 <;> cases hd:Nat.blt l' h' <;> rfl
  | some m=>
   simp only [Option.map_some]
   cases bndD len (m.ev G x.t) <;> try rfl
   rename_i m'; simp only [Option.bind_eq_bind,Option.bind_some]
   cases bndO m' len (h.map (·.ev G x.t)) <;> try rfl
   rename_i h'; simp only [Option.bind_some]
   cases bndO h' 0 (l.map (·.ev G x.t)) <;> try rfl
   rename_i l'; simp only [Option.bind_some]
   cases hb:(Nat.beq z sz&&Nat.blt 0 len) <;> rfl
theorem ex_st:type_of% @st_mv.eq_1∧type_of% @st_pick.eq_1∧type_of% @st_new.eq_1∧type_of% @st_ld.eq_1∧type_of% @st_st.eq_1∧type_of% @st_fa.eq_1∧type_of% @st_iaA.eq_1∧type_of% @st_iaS_eq∧type_of% @st_ixA.eq_1∧type_of% @st_ixS.eq_1∧type_of% @st_fld.eq_1∧type_of% @st_ext.eq_1∧type_of% @st_bin.eq_1∧type_of% @st_cmp.eq_1∧type_of% @st_un.eq_1∧type_of% @st_bld.eq_1∧type_of% @st_bsl.eq_1∧type_of% @st_mks.eq_1∧type_of% @st_slS.eq_1∧type_of% @st_slV_eq∧type_of% @st_slA.eq_1∧type_of% @st_len.eq_1∧type_of% @st_cap.eq_1∧type_of% @st_app.eq_1∧type_of% @st_copy.eq_1∧type_of% @st_cvI.eq_1∧type_of% @st_cvN.eq_1∧type_of% @st_cvB.eq_1∧type_of% @st_cvS.eq_1∧type_of% @st_mkif.eq_1∧type_of% @st_mkfn.eq_1∧type_of% @st_nilc.eq_1∧type_of% @st_rng.eq_1∧type_of% @st_next.eq_1∧type_of% @st_mm.eq_1∧type_of% @st_mkm.eq_1∧type_of% @st_mlk.eq_1∧type_of% @st_mup.eq_1∧type_of% @st_men.eq_1∧type_of% @st_mst.eq_1∧type_of% @st_mln.eq_1∧type_of% @st_rgm.eq_1∧type_of% @st_nxm.eq_1∧type_of% @st_ent.eq_1∧type_of% @st_tas.eq_1∧type_of% @st_tai.eq_1∧type_of% @st_xl.eq_1∧type_of% @st_xa.eq_1:=
 ⟨@st_mv.eq_1,@st_pick.eq_1,@st_new.eq_1,@st_ld.eq_1,@st_st.eq_1,@st_fa.eq_1,@st_iaA.eq_1,@st_iaS_eq,@st_ixA.eq_1,@st_ixS.eq_1,@st_fld.eq_1,@st_ext.eq_1,@st_bin.eq_1,@st_cmp.eq_1,@st_un.eq_1,@st_bld.eq_1,@st_bsl.eq_1,@st_mks.eq_1,@st_slS.eq_1,@st_slV_eq,@st_slA.eq_1,@st_len.eq_1,@st_cap.eq_1,@st_app.eq_1,@st_copy.eq_1,@st_cvI.eq_1,@st_cvN.eq_1,@st_cvB.eq_1,@st_cvS.eq_1,@st_mkif.eq_1,@st_mkfn.eq_1,@st_nilc.eq_1,@st_rng.eq_1,@st_next.eq_1,@st_mm.eq_1,@st_mkm.eq_1,@st_mlk.eq_1,@st_mup.eq_1,@st_men.eq_1,@st_mst.eq_1,@st_mln.eq_1,@st_rgm.eq_1,@st_nxm.eq_1,@st_ent.eq_1,@st_tas.eq_1,@st_tai.eq_1,@st_xl.eq_1,@st_xa.eq_1⟩
theorem ex_val:(∀ (dst:Option Nat) (d:D) (y:AS),zval dst (some (d,y)) = .ok .normal ⟨putT dst y.t d,y.s,y.c,y.d,y.r⟩)∧(∀ (dst:Option Nat),zval dst none = .no) ∧
  (∀ (n:Nat) (t:Tm) (d:D),putT (some n) t d=tput t n d)∧(∀ (t:Tm) (d:D),putT none t d=t) ∧
  (∀ (n:Nat) (G:List (Nat × List D)) (t:Tm),(Arg.t n).ev G t=tget t n)∧(∀ (d:D) (G:List (Nat × List D)) (t:Tm),(Arg.c d).ev G t=d)∧(∀ (n:Nat) (G:List (Nat × List D)) (t:Tm),(Arg.f n).ev G t = .fn (.func n) [] []) ∧
  (∀ (t:Tm) (n m:Nat) (d:D),tget (tput t n d) m=if m=n then d else tget t m) ∧
  (∀ (s:St) (n m:Nat) (b:Blk),sget (sset s n b) m=if m=n then some b else sget s m)∧(∀ (s:St) (n m:Nat) (b:Blk),sget (sadd s n b) m=if m=n then some b else sget s m) ∧
  (∀ (G:List (Nat × List D)) (t:Tm),evs [] G t=[])∧(∀ (G:List (Nat × List D)) (t:Tm) (a:Arg) (l:List Arg),evs (a::l) G t=a.ev G t::evs l G t) ∧
  (∀ (x:AS) (b:Blk),x.add b=⟨x.t,sadd x.s x.c b,x.c+1,x.d,x.r⟩) ∧
  (∀ (cx:Cx) (cl:CL) (dst:Option Nat) (g:Option (Nat × Bool)) (x:AS) (f:Nat) (l:List Arg),zOp cx cl ⟨dst,.call f l,g⟩ x=back dst x (cl (.fn f) (evs l cx.G x.t) x.s x.c)) ∧
  (∀ (dst:Option Nat) (x:AS) (d:D) (s:St) (c:Nat),back dst x (.ok (.ret d) s c) = .ok .normal ⟨putT dst x.t d,s,c,x.d,x.r⟩) ∧
  (∀ (dst:Option Nat) (x:AS) (ch:Ch) (s:St) (c:Nat),back dst x (.ok (.pan ch) s c) = .ok (.pan ch) ⟨x.t,s,c,x.d,x.r⟩):=by
 refine ⟨fun _ _ _=>rfl,fun _=>rfl,fun _ _ _=>rfl,fun _ _=>rfl,fun _ _ _=>rfl,fun _ _ _=>rfl,fun _ _ _=>rfl,fun t n m d=>tget_tput t n d m,fun s n m b=>sget_sset s n m b,fun s n m b=>sget_sadd s n m b,fun _ _=>rfl,fun _ _ _ _=>rfl,fun _ _=>rfl,fun _ _ _ _ _ _ _=>rfl,fun _ _ _ _ _=>rfl,fun _ _ _ _ _=>rfl⟩
theorem ex_num:(∀ (k:IntKind) (x y:Int),binD .add (.int k x) (.int k y)=some (.int k (wrapD k (x+y))))∧(∀ (k:IntKind) (x y:Int),binD .sub (.int k x) (.int k y)=some (.int k (wrapD k (x-y)))) ∧
  (∀ (k:IntKind) (x y:Int),binD .mul (.int k x) (.int k y)=some (.int k (wrapD k (x*y)))) ∧
  (∀ (k:IntKind) (x y:Int),binD .eql (.int k x) (.int k y)=some (.bool (decide (x=y))))∧(∀ (k:IntKind) (x y:Int),binD .neq (.int k x) (.int k y)=some (.bool (decide (x≠y)))) ∧
  (∀ (k:IntKind) (x y:Int),binD .lss (.int k x) (.int k y)=some (.bool (decide (x<y))))∧(∀ (k:IntKind) (x y:Int),binD .leq (.int k x) (.int k y)=some (.bool (decide (x≤y)))) ∧
  (∀ (k:IntKind) (x y:Int),binD .gtr (.int k x) (.int k y)=some (.bool (decide (y<x))))∧(∀ (k:IntKind) (x y:Int),binD .geq (.int k x) (.int k y)=some (.bool (decide (y≤x)))):=by
 refine ⟨?_,?_,?_,?_,?_,?_,?_,?_,?_⟩ <;> intro k x y <;> simp [binD,intD]
 all_goals (cases k <;> rfl)
theorem ex_end:(∀ (df:Nat→List D→ZMode→St→Nat→DR) (A:AF) (t:Tm) (s:St) (c:Nat) (r:Option Nat),zbody df A (.ok .ret ⟨t,s,c,[],r⟩)=(match results A ⟨t,s,c,[],r⟩ with|some d => .ok (.ret d) s c|none => .no)) ∧
  (∀ (df:Nat→List D→ZMode→St→Nat→DR) (A:AF) (t:Tm) (s:St) (c:Nat) (r:Option Nat),zbody df A (.ok .normal ⟨t,s,c,[],r⟩)=(match results A ⟨t,s,c,[],r⟩ with|some d => .ok (.ret d) s c|none => .no)) ∧
  (∀ (np:Nat) (b:AC) (x:AS),results ⟨np,b,[]⟩ x=some (.tup [])) ∧
  (∀ (np:Nat) (b:AC) (x:AS) (v:RV),results ⟨np,b,[v]⟩ x=v.get x) ∧
  (∀ (np:Nat) (b:AC) (x:AS) (v w:RV),results ⟨np,b,[v,w]⟩ x=(v.get x).bind fun a=>(w.get x).map fun b => .tup [a,b]) ∧
  (∀ (np:Nat) (b:AC) (x:AS) (v w u:RV),results ⟨np,b,[v,w,u]⟩ x=(v.get x).bind fun a=>(w.get x).bind fun b=>(u.get x).map fun c => .tup [a,b,c]) ∧
  (∀ (np:Nat) (b:AC) (x:AS) (v w u p:RV),results ⟨np,b,[v,w,u,p]⟩ x=(v.get x).bind fun a=>(w.get x).bind fun b=>(u.get x).bind fun c=>(p.get x).map fun d => .tup [a,b,c,d]) ∧
  (∀ (x:AS) (n:Nat),(RV.tmp n).get x=some (tget x.t n)) ∧
  (∀ (x:AS) (n:Nat) (sz:Option Nat),(RV.cell n sz).get x=(seen x.s (tget x.t n)).bind fun p=>takeAt p.1 p.2 sz):=by
 refine ⟨fun _ _ _ _ _ _=>rfl,fun _ _ _ _ _ _=>rfl,fun _ _ _=>rfl,fun np b x v => ?_,fun np b x v w => ?_,fun np b x v w u => ?_,fun np b x v w u p => ?_,fun _ _=>rfl,fun _ _ _=>rfl⟩ <;>
  simp only [results,List.mapM_cons,List.mapM_nil,Option.bind_eq_bind,Option.pure_def]
 ·cases v.get x <;> rfl
 ·cases v.get x <;> try rfl
  cases w.get x <;> rfl
 ·cases v.get x <;> try rfl
  cases w.get x <;> try rfl
  cases u.get x <;> rfl
 ·cases v.get x <;> try rfl
  cases w.get x <;> try rfl
  cases u.get x <;> try rfl
  cases p.get x <;> rfl
/-! Guards; regions in an open order. -/
def zgd (v:D) (w:Bool) (p q:R):R:=match v with
 | .bool b=>bif b==w then p else q
 | .tup []=>q
 | _ => .no
@[congr] theorem zgd_congr {v v':D} (h:v=v') (w:Bool) (p q:R):zgd v w p q=zgd v' w p q:=by rw [h]
theorem zOps_g (cx:Cx) (cl:CL) (dst:Option Nat) (op:AOp) (g:Nat) (w:Bool) (r:List AOper) (x:AS) :
  zOps cx cl (⟨dst,op,some (g,w)⟩::r) x=zgd (tget x.t g) w (zbind (zOp cx cl ⟨dst,op,some (g,w)⟩ x) (zOps cx cl r)) (zOps cx cl r ⟨putT dst x.t (.tup []),x.s,x.c,x.d,x.r⟩):=by
 show (Option.rec .no (zops_want ⟨dst,op,some (g,w)⟩ (fun cx cl x=>zOps cx cl r x) cx cl x) (wanted ⟨dst,op,some (g,w)⟩ x):R)=_
 unfold wanted zgd
 simp only
 cases tget x.t g <;> try rfl
 ·rename_i b
  cases b <;> cases w <;> rfl
 ·rename_i cs
  cases cs <;> rfl
def zlk (dst:Option Nat) (x:AS) (r:Option (D × AS)) (chk:D→Bool) (K:AS→R):R:=match r with
 | some p=>bif chk p.1 then K ⟨putT dst x.t p.1,x.s,x.c,x.d,x.r⟩ else .no
 | none => .no
@[congr] theorem zlk_congr (dst:Option Nat) (x:AS) {r r':Option (D × AS)} (h:r=r') (chk:D→Bool) (K:AS→R):zlk dst x r chk K=zlk dst x r' chk K:=by rw [h]
def zall (dst:Option Nat) (x:AS) (nm:Nat) (r:Option ((Nat→D) × Blk)) (old:List St) (K:AS→R):R:=match r with
 | some p=>bif old.all (fun s=>(sget s nm).isNone) then K ⟨putT dst x.t (p.1 nm),sadd x.s nm p.2,x.c,x.d,x.r⟩ else .no
 | none => .no
@[congr] theorem zall_congr (dst:Option Nat) (x:AS) (nm:Nat) {r r':Option ((Nat→D) × Blk)} (h:r=r') (old:List St) (K:AS→R):zall dst x nm r old K=zall dst x nm r' old K:=by rw [h]
def zac (r:R) (last:Bool) (K:AS→R):R:=match r with
 | .ok .normal y=>K y
 | .ok (.pan ch) y=>bif last then .ok (.pan ch) y else .no
 | _ => .no
@[congr] theorem zac_congr {r r':R} (h:r=r') (last:Bool) (K:AS→R):zac r last K=zac r' last K:=by rw [h]
theorem zAny_w (cx:Cx) (cl:CL) (c0:Nat) (i k:Nat) (dst:Option Nat) (op:AOp) (r:List (Nat × Nat × AOper)) (hist:List St) (x:AS) :
  zAny cx cl c0 ((i,k,⟨dst,op,none⟩)::r) hist x=(match op.kd with
   | 0=>zlk dst x (step cx.G op x) (fun d=>(hist.take k).all (sameStep cx.G op x d)) (zAny cx cl c0 r hist)
   | 1=>zall dst x (c0+i) (allocOf cx.G op x.t) (x.s::hist.take k) (zAny cx cl c0 r hist)
   | 2=>zac (zOp cx cl ⟨dst,op,none⟩ x) (r.all fun f=>Nat.beq f.2.1 0) (zAny cx cl c0 r (x.s::hist))
   | _ => .no):=by
 show zany_cons cx cl c0 (i,k,⟨dst,op,none⟩) r (fun h x=>zAny cx cl c0 r h x) hist x=_
 unfold zany_cons
 have hw:wanted (i,k,(⟨dst,op,none⟩:AOper)).2.2 x=some true:=rfl
 rw [hw]
 show (match op.kd with|0=>_|1=>_|2=>_|_=>_:R)=_
 generalize op.kd=q
 match q with
 | 0=>cases hs:step cx.G op x <;> simp only [zlk,hs] <;> rfl
 | 1=>cases hs:allocOf cx.G op x.t <;> simp only [zall,hs] <;> rfl
 | 2=>
  simp only [zac]
  cases hs:zOp cx cl ⟨dst,op,none⟩ x with
  | no=>rfl
  | ok o y=>cases o <;> rfl
 | n+3=>rfl
theorem zAny_g (cx:Cx) (cl:CL) (c0:Nat) (i k:Nat) (dst:Option Nat) (op:AOp) (g:Nat) (w:Bool) (r:List (Nat × Nat × AOper)) (hist:List St) (x:AS) :
  zAny cx cl c0 ((i,k,⟨dst,op,some (g,w)⟩)::r) hist x=zgd (tget x.t g) w (zAny cx cl c0 ((i,k,⟨dst,op,none⟩)::r) hist x)
   (zAny cx cl c0 r (bif Nat.beq op.kd 2 then x.s::hist else hist) ⟨putT dst x.t (.tup []),x.s,x.c,x.d,x.r⟩):=by
 have h1:∀ b:Bool,zAny cx cl c0 ((i,k,⟨dst,op,none⟩)::r) hist x=zany_cons cx cl c0 (i,k,⟨dst,op,none⟩) r (fun h x=>zAny cx cl c0 r h x) hist x:=fun _=>rfl
 show zany_cons cx cl c0 (i,k,⟨dst,op,some (g,w)⟩) r (fun h x=>zAny cx cl c0 r h x) hist x=_
 rw [h1 true]
 unfold zany_cons zgd
 simp only [wanted]
 cases tget x.t g <;> try rfl
 ·rename_i b
  cases b <;> cases w <;> rfl
 ·rename_i cs
  cases cs <;> rfl
theorem ex_any:(∀ (cx:Cx) (cl:CL) (k:Nat) (x:AS) (ord:List (Nat × Nat)) (ops:List AOper),zC (.reg (some ord) ops) cx cl k x=zAny cx cl x.c (zipO ord ops) [] ⟨killT (zipO ord ops) x.t,x.s,x.c+ops.length,x.d,x.r⟩) ∧
  (∀ (cx:Cx) (cl:CL) (c0:Nat) (hist:List St) (x:AS),zAny cx cl c0 [] hist x = .ok .normal x) ∧
  (∀ (dst:Option Nat) (x y:AS) (d:D) (chk:D→Bool) (K:AS→R),zlk dst x (some (d,y)) chk K=bif chk d then K ⟨putT dst x.t d,x.s,x.c,x.d,x.r⟩ else .no) ∧
  (∀ (dst:Option Nat) (x:AS) (nm:Nat) (p:(Nat→D) × Blk) (old:List St) (K:AS→R),zall dst x nm (some p) old K=bif old.all (fun s=>(sget s nm).isNone) then K ⟨putT dst x.t (p.1 nm),sadd x.s nm p.2,x.c,x.d,x.r⟩ else .no) ∧
  (∀ (y:AS) (l:Bool) (K:AS→R),zac (.ok .normal y) l K=K y)∧(∀ (y:AS) (ch:Ch) (l:Bool) (K:AS→R),zac (.ok (.pan ch) y) l K=bif l then .ok (.pan ch) y else .no) ∧
  (∀ (b:Bool) (p q:R),zgd (.bool b) true p q=zcond (.bool b) p q)∧(∀ (b:Bool) (p q:R),zgd (.bool b) false p q=zcond (.bool b) q p)∧(∀ (w:Bool) (p q:R),zgd (.tup []) w p q=q):=by
 refine ⟨fun _ _ _ _ _ _=>rfl,fun _ _ _ _ _=>rfl,fun _ _ _ _ _ _=>rfl,fun _ _ _ _ _ _=>rfl,fun _ _ _=>rfl,fun _ _ _ _=>rfl,fun b _ _=>by cases b <;> rfl,fun b _ _=>by cases b <;> rfl,fun _ _ _=>rfl⟩
end
end Zv
namespace Zv
open Go
/-! Slices that came in. -/
def IsSl (w:Nat) (rows:List (List D)) (d:D):Prop:=(∀ r∈rows,r.length=w)∧((d = .nils∧rows=[])∨∃ ex,d = .sl ex rows.length rows.flatten)
theorem IsSl.lenD {w:Nat} {rows:List (List D)} {d:D} (h:IsSl w rows d):lenD false d=some rows.length:=by
 rcases h.2 with ⟨rfl,rfl⟩|⟨ex,rfl⟩ <;> rfl
theorem flatten_at {w:Nat}:∀ {rows:List (List D)} {i:Nat} {r:List D},(∀ r∈rows,r.length=w)→rows[i]?=some r→(rows.flatten.drop (i*w)).take w=r∧i*w+w≤rows.flatten.length
 | [],i,r,h,hr=>by simp at hr
 | x::rows,0,r,h,hr=>by
  simp only [List.getElem?_cons_zero,Option.some.injEq] at hr
  subst hr
  have:=h x (by simp)
  rw [List.flatten_cons,Nat.zero_mul,List.drop_zero,←this]
  simp
 | x::rows,i+1,r,h,hr=>by
  have hx:=h x (by simp)
  obtain ⟨h1,h2⟩:=flatten_at (w:=w) (i:=i) (fun r hr=>h r (by simp [hr])) (show rows[i]?=some r by simpa using hr)
  refine ⟨?_,?_⟩
  ·rw [List.flatten_cons,Nat.add_mul,Nat.one_mul,Nat.add_comm,←List.drop_drop]
   rw [show (x++rows.flatten).drop w=rows.flatten by rw [←hx]; simp]
   exact h1
  ·rw [List.flatten_cons,List.length_append,hx,Nat.add_mul,Nat.one_mul]; omega
theorem idxD_nat {n i:Nat} {k:IntKind} (h:i<n):idxD n (.int k (i:Int))=some i:=by
 simp only [idxD]
 rw [if_pos ⟨by omega,by omega⟩,Int.toNat_natCast]
theorem IsSl.ia {w:Nat} {rows:List (List D)} {d:D} (h:IsSl w rows d) {i:Nat} (hi:i<rows.length) {k:IntKind}:iaSD w d (.int k (i:Int))=some (.iptr rows.flatten (i*w)):=by
 rcases h.2 with ⟨rfl,rfl⟩|⟨ex,rfl⟩
 ·simp at hi
 ·simp only [iaSD,idxD_nat hi,Option.map_some]
theorem IsSl.row {w:Nat} {rows:List (List D)} {d:D} (h:IsSl w rows d) {i:Nat} (hi:i<rows.length):takeAt rows.flatten (i*w) (some w)=some (.agg rows[i]):=by
 obtain ⟨h1,h2⟩:=flatten_at h.1 (List.getElem?_eq_getElem hi)
 simp only [takeAt,Nat.ble_eq_true_of_le h2,cond_true,h1]
theorem IsSl.cell {w:Nat} {rows:List (List D)} {d:D} (h:IsSl w rows d) {i:Nat} (hi:i<rows.length) {o:Nat} (ho:o<w):rows.flatten[i*w+o]?=rows[i][o]?:=by
 obtain ⟨h1,h2⟩:=flatten_at h.1 (List.getElem?_eq_getElem hi)
 rw [←h1,List.getElem?_take,if_pos ho,List.getElem?_drop]
theorem IsSl.cell0 {w:Nat} {rows:List (List D)} {d:D} (h:IsSl w rows d) {i:Nat} (hi:i<rows.length) (ho:0<w):rows.flatten[i*w]?=rows[i][0]?:=h.cell hi ho
theorem IsSl.ble {w:Nat} {rows:List (List D)} {d:D} (h:IsSl w rows d) {i:Nat} (hi:i<rows.length):i*w+w≤rows.flatten.length:=(flatten_at h.1 (List.getElem?_eq_getElem hi)).2
theorem IsSl.tk {w:Nat} {rows:List (List D)} {d:D} (h:IsSl w rows d) {i:Nat} (hi:i<rows.length):(rows.flatten.drop (i*w)).take w=rows[i]:=(flatten_at h.1 (List.getElem?_eq_getElem hi)).1
theorem IsSl.nag {w:Nat} {rows:List (List D)} {d:D} (h:IsSl w rows d):isAg d=false:=by
 rcases h.2 with ⟨rfl,rfl⟩|⟨ex,rfl⟩ <;> rfl
theorem IsSl.fz {w:Nat} {rows:List (List D)} {d:D} (h:IsSl w rows d) (n:Nat) (s:St):frz false (n+1) s d=some d:=by
 rcases h.2 with ⟨rfl,rfl⟩|⟨ex,rfl⟩ <;> rfl
theorem IsSl.pure {w:Nat} {rows:List (List D)} {d:D} (h:IsSl w rows d):d.pure=true:=by
 rcases h.2 with ⟨rfl,rfl⟩|⟨ex,rfl⟩ <;> rfl
theorem IsSl.cellsq {w:Nat} {rows:List (List D)} {d:D} (h:IsSl w rows d):d.cells?=some [d]:=by
 rcases h.2 with ⟨rfl,rfl⟩|⟨ex,rfl⟩ <;> rfl
theorem flatten_length {w:Nat}:∀ {rows:List (List D)},(∀ r∈rows,r.length=w)→rows.flatten.length=rows.length*w
 | [],h=>by simp
 | x::rows,h=>by
  rw [List.flatten_cons,List.length_append,h x (by simp),flatten_length (fun r hr=>h r (by simp [hr])),List.length_cons,Nat.add_mul,Nat.one_mul,Nat.add_comm]
theorem take_flatten {w:Nat}:∀ {rows:List (List D)} {i:Nat},(∀ r∈rows,r.length=w)→i≤rows.length→rows.flatten.take (i*w)=(rows.take i).flatten
 | rows,0,h,hi=>by simp
 | [],i+1,h,hi=>by simp at hi
 | x::rows,i+1,h,hi=>by
  have hx:=h x (by simp)
  rw [List.flatten_cons,List.take_succ_cons,List.flatten_cons,Nat.add_mul,Nat.one_mul,Nat.add_comm,←hx,List.take_length_add_append,hx,
   take_flatten (fun r hr=>h r (by simp [hr])) (by simpa using hi)]
theorem drop_flatten {w:Nat}:∀ {rows:List (List D)} {i:Nat},(∀ r∈rows,r.length=w)→i≤rows.length→rows.flatten.drop (i*w)=(rows.drop i).flatten
 | rows,0,h,hi=>by simp
 | [],i+1,h,hi=>by simp at hi
 | x::rows,i+1,h,hi=>by
  have hx:=h x (by simp)
  rw [List.flatten_cons,List.drop_succ_cons,Nat.add_mul,Nat.one_mul,Nat.add_comm,←hx,←List.drop_drop,List.drop_left,hx,
   drop_flatten (fun r hr=>h r (by simp [hr])) (by simpa using hi)]
theorem bndD_nat {n i:Nat} {k:IntKind} (h:i≤n):bndD n (.int k (i:Int))=some i:=by
 simp only [bndD]
 rw [if_pos ⟨by omega,by omega⟩,Int.toNat_natCast]
theorem IsSl.part {w:Nat} {rows:List (List D)} {d:D} (h:IsSl w rows d) {i j:Nat} (hij:i≤j) (hj:j≤rows.length) {k k':IntKind} :
  ∃ d',slVD w d (some (.int k (i:Int))) (some (.int k' (j:Int))) none=some d'∧IsSl w ((rows.take j).drop i) d':=by
 rcases h.2 with ⟨rfl,rfl⟩|⟨ex,rfl⟩
 ·simp only [List.length_nil,Nat.le_zero] at hj
  subst hj
  have:i=0:=by omega
  subst this
  exact ⟨.nils,by simp only [slVD,bndO,Option.bind_eq_bind,Option.bind_some,bndD_nat (Nat.le_refl 0)],by simp [IsSl]⟩
 ·refine ⟨_,?_,fun r hr=>h.1 r (List.mem_of_mem_take (List.mem_of_mem_drop hr)),.inr ⟨ex&&Nat.beq j rows.length,rfl⟩⟩
  have h1:Nat.ble (j*w) rows.flatten.length=true:=by
   rw [flatten_length h.1]; exact Nat.ble_eq_true_of_le (Nat.mul_le_mul_right w hj)
  simp only [slVD,bndO,bndD_nat hij,bndD_nat hj,Option.bind_eq_bind,Option.bind_some,Option.isSome_none,Bool.false_and,Option.isNone_none,Bool.true_and,Bool.false_or,h1,cond_true,List.length_drop,List.length_take,Nat.min_eq_left hj]
  have e:((rows.take j).drop i).flatten=(rows.flatten.drop (i*w)).take ((j-i)*w):=by
   rw [←drop_flatten (w:=w) (fun r hr=>h.1 r (List.mem_of_mem_take hr)) (by rw [List.length_take]; omega),←take_flatten h.1 hj,List.drop_take,Nat.sub_mul]
  rw [e]
theorem slVD_lo {w:Nat} {d:D} {n:Nat} (h:lenD false d=some n) (hd:d.pure=true) (l:Option D):slVD w d l none none=slVD w d l (some (.int .i64 (n:Int))) none:=by
 cases d <;> simp only [lenD,Option.some.injEq,reduceCtorEq] at h <;> simp only [D.pure,reduceCtorEq,Bool.false_eq_true] at hd
 ·subst h; simp only [slVD,bndO,Option.bind_eq_bind,Option.bind_some,bndD_nat (Nat.le_refl 0)]
 ·subst h; simp only [slVD,bndO,Option.bind_eq_bind,Option.bind_some,bndD_nat (Nat.le_refl _)]
theorem slVD_hi {w:Nat} {d:D} (hd:d.pure=true) (h:Option D):slVD w d none h none=slVD w d (some (.int .i64 (0:Nat))) h none:=by
 cases d <;> simp only [D.pure,reduceCtorEq,Bool.false_eq_true] at hd <;> simp only [slVD,bndO,bndD_nat (Nat.zero_le _)]
theorem IsSl.head {w:Nat} {rows:List (List D)} {d:D} (h:IsSl w rows d) {j:Nat} (hj:j≤rows.length) {k:IntKind} :
  ∃ d',slVD w d none (some (.int k (j:Int))) none=some d'∧IsSl w (rows.take j) d':=by
 obtain ⟨d',h1,h2⟩:=h.part (Nat.zero_le j) hj (k := .i64) (k':=k)
 exact ⟨d',by rw [slVD_hi h.pure]; exact h1,h2⟩
theorem IsSl.tail {w:Nat} {rows:List (List D)} {d:D} (h:IsSl w rows d) {i:Nat} (hi:i≤rows.length) {k:IntKind} :
  ∃ d',slVD w d (some (.int k (i:Int))) none none=some d'∧IsSl w (rows.drop i) d':=by
 obtain ⟨d',h1,h2⟩:=h.part hi (Nat.le_refl _) (k:=k) (k' := .i64)
 exact ⟨d',by rw [slVD_lo h.lenD h.pure]; exact h1,by rwa [List.take_length] at h2⟩
/-! Slices whose rows stand for typed values. -/
def Sl {α:Type} (w:Nat) (e:α→List D) (l:List α) (d:D):Prop:=IsSl w (l.map e) d
section
variable {α:Type} {w:Nat} {e:α→List D} {l:List α} {d:D} (h:Sl w e l d)
include h
theorem Sl.len:lenD false d=some l.length:=by have:=IsSl.lenD h; rwa [List.length_map] at this
theorem Sl.ia {i:Nat} (hi:i<l.length) {k:IntKind}:iaSD w d (.int k (i:Int))=some (.iptr (l.map e).flatten (i*w)):=IsSl.ia h (by simpa using hi)
theorem Sl.cell {i:Nat} (hi:i<l.length) {o:Nat} (ho:o<w):(l.map e).flatten[i*w+o]?=(e l[i])[o]?:=by
 have:=IsSl.cell h (i:=i) (by simpa using hi) ho
 rwa [List.getElem_map] at this
theorem Sl.cell0 {i:Nat} (hi:i<l.length) (ho:0<w):(l.map e).flatten[i*w]?=(e l[i])[0]?:=Sl.cell h hi ho
theorem Sl.row {i:Nat} (hi:i<l.length):takeAt (l.map e).flatten (i*w) (some w)=some (.agg (e l[i])):=by
 have:=IsSl.row h (i:=i) (by simpa using hi)
 rwa [List.getElem_map] at this
theorem Sl.fz (n:Nat) (s:St):frz false (n+1) s d=some d:=IsSl.fz h n s
theorem Sl.pure:d.pure=true:=IsSl.pure h
theorem Sl.nag:isAg d=false:=IsSl.nag h
theorem Sl.cellsq:d.cells?=some [d]:=IsSl.cellsq h
theorem Sl.head {j:Nat} (hj:j≤l.length) {k:IntKind}:∃ d',slVD w d none (some (.int k (j:Int))) none=some d'∧Sl w e (l.take j) d':=by
 obtain ⟨d',h1,h2⟩:=IsSl.head h (j:=j) (by simpa using hj) (k:=k)
 exact ⟨d',h1,by rwa [←List.map_take] at h2⟩
theorem Sl.tail {i:Nat} (hi:i≤l.length) {k:IntKind}:∃ d',slVD w d (some (.int k (i:Int))) none none=some d'∧Sl w e (l.drop i) d':=by
 obtain ⟨d',h1,h2⟩:=IsSl.tail h (i:=i) (by simpa using hi) (k:=k)
 exact ⟨d',h1,by rwa [←List.map_drop] at h2⟩
theorem Sl.part {i j:Nat} (hij:i≤j) (hj:j≤l.length) {k k':IntKind}:∃ d',slVD w d (some (.int k (i:Int))) (some (.int k' (j:Int))) none=some d'∧Sl w e ((l.take j).drop i) d':=by
 obtain ⟨d',h1,h2⟩:=IsSl.part h hij (by simpa using hj) (k:=k) (k':=k')
 exact ⟨d',h1,by rwa [←List.map_take,←List.map_drop] at h2⟩
end
theorem Sl.ia1 {α:Type} {e:α→List D} {l:List α} {d:D} (h:Sl 1 e l d) {i:Nat} (hi:i<l.length) {k:IntKind}:iaSD 1 d (.int k (i:Int))=some (.iptr (l.map e).flatten i):=by rw [h.ia hi,Nat.mul_one]
theorem Sl.at1 {α:Type} {e:α→List D} {l:List α} {d:D} (h:Sl 1 e l d) {i:Nat} (hi:i<l.length):(l.map e).flatten[i]?=(e l[i])[0]?:=by have:=h.cell0 hi Nat.one_pos; rwa [Nat.mul_one] at this
theorem start_eq (args:List D) (s:St) (c:Nat):start args s c=⟨argTm 0 args tm0,s,c,[],none⟩:=rfl
/-! Loops. -/
@[elab_as_elim] theorem zloop_any {Q:R→Prop} (rl:R) {k:Nat} {f:AS→R} {x:AS} (hl:zloop k f x=rl) (n:Nat) (hk:n<k) (I:Nat→AS→Prop) (h0:I 0 x)
  (hs:∀ i x,i≤n→I i x→(∃ y,f x = .ok .normal y∧i<n∧I (i+1) y)∨(Q (f x)∧∀ y,f x ≠ .ok .normal y)):Q rl:=by
 have main:∀ m i k x,i+m=n→m<k→I i x→Q (zloop k f x):=by
  intro m
  induction m with
  | zero=>
   intro i k x hi hk hI
   obtain ⟨k,rfl⟩:∃ j,k=j+1:=⟨k-1,by omega⟩
   show Q (zbind (f x) (zloop k f))
   rcases hs i x (by omega) hI with ⟨y,hy,hlt,_⟩|⟨hq,hn⟩
   ·omega
   ·cases hf:f x with
    | no=>rw [hf] at hq; exact hq
    | ok o y=>cases o with
     | normal=>exact absurd hf (hn y)
     | _=>rw [hf] at hq; exact hq
  | succ m ih=>
   intro i k x hi hk hI
   obtain ⟨k,rfl⟩:∃ j,k=j+1:=⟨k-1,by omega⟩
   show Q (zbind (f x) (zloop k f))
   rcases hs i x (by omega) hI with ⟨y,hy,hlt,hI'⟩|⟨hq,hn⟩
   ·rw [hy]
    exact ih (i+1) k y (by omega) (by omega) hI'
   ·cases hf:f x with
    | no=>rw [hf] at hq; exact hq
    | ok o y=>cases o with
     | normal=>exact absurd hf (hn y)
     | _=>rw [hf] at hq; exact hq
 subst hl
 exact main n 0 k x (by omega) hk h0
def Go1 (Q:R→Prop) (N:AS→Prop) (r:R):Prop:=match r with
 | .ok .normal z=>N z
 | .ok o z=>Q (.ok o z)
 | .no=>False
theorem go1 {Q:R→Prop} {N:AS→Prop}:(∀ z,Go1 Q N (.ok .normal z)=N z)∧(∀ i z,Go1 Q N (.ok (.exit i) z)=Q (.ok (.exit i) z))∧(∀ z,Go1 Q N (.ok .ret z)=Q (.ok .ret z))∧(∀ c z,Go1 Q N (.ok (.pan c) z)=Q (.ok (.pan c) z)):=
 ⟨fun _=>rfl,fun _ _=>rfl,fun _=>rfl,fun _ _=>rfl⟩
@[elab_as_elim] theorem zwhile {Q:R→Prop} (rl:R) {k:Nat} {f:AS→R} {x:AS} (hz:zloop k f x=rl) (n:Nat) (hk:n<k) (I:Nat→AS→Prop) (h0:I 0 x)
  (hs:∀ i x,i≤n→I i x→Go1 Q (fun z=>i<n∧I (i+1) z) (f x)):Q rl:=
 zloop_any rl hz n hk I h0 fun i x hi hI=>by
  have h:=hs i x hi hI
  cases hf:f x with
  | no=>rw [hf] at h; exact h.elim
  | ok o y=>
   rw [hf] at h
   cases o with
   | normal=>exact .inl ⟨y,rfl,h⟩
   | exit i=>exact .inr ⟨h,fun y h=>by cases h⟩
   | ret=>exact .inr ⟨h,fun y h=>by cases h⟩
   | pan c=>exact .inr ⟨h,fun y h=>by cases h⟩
theorem wrapD_i64 {n:Int} (h : -9223372036854775808≤n) (h':n<9223372036854775808):wrapD .i64 n=n:=wrapD_fits (by simp only [loK]; omega) (by simp only [hiK]; omega)
theorem inc_i64 {a:Nat} (h:a<9223372036854775807):wrapD .i64 ((a:Int)+1)=((a+1:Nat):Int):=by rw [wrapD_i64 (by omega) (by omega)]; rfl
@[elab_as_elim] theorem zrange {Q:R→Prop} (rl:R) {cx:Cx} {cl:CL} {k ti tn tc tj id id':Nat} {body:AC} {t0:Tm} {s0:St} {c0:Nat} {d:List (D × List D)} {r:Option Nat}
  (hz:zloop k (zC (.seq (.reg none [⟨some tc,.bin .lss (.t ti) (.t tn),none⟩]) (.seq (.cond (.t tc) .skip (.exit id)) (.seq (.block id' body) (.reg none [⟨some tj,.bin .add (.t ti) (.c (.int .i64 1)),none⟩,⟨some ti,.mv (.t tj),none⟩])))) cx cl k)
   ⟨t0,s0,c0,d,r⟩=rl)
  (n:Nat) (hk:n<k) (h63:n<9223372036854775807) (I:Nat→Tm→St→Nat→Prop) (hne:ti≠tc∧tn≠tc)
  (hi:tget t0 ti = .int .i64 0) (hn:tget t0 tn = .int .i64 n) (h0:I 0 t0 s0 c0)
  (hs:∀ i t s c,i<n→I i t s c→tget t ti = .int .i64 i→tget t tn = .int .i64 n →
   Go1 Q (fun z=>z.d=d∧z.r=r∧tget z.t ti = .int .i64 i∧(tn=ti∨tn=tj∨tget z.t tn = .int .i64 n)∧tn≠ti∧tn≠tj∧I (i+1) (tput (tput z.t tj (.int .i64 (i+1:Nat))) ti (.int .i64 (i+1:Nat))) z.s z.c)
    (zblkR id' (zC body cx cl k ⟨tput t tc (.bool true),s,c,d,r⟩)))
  (he:∀ t s c,I n t s c→tget t ti = .int .i64 n→tget t tn = .int .i64 n→Q (.ok (.exit id) ⟨tput t tc (.bool false),s,c,d,r⟩)):Q rl:=by
 refine zloop_any rl hz n hk (fun i x=>∃ t s c,x=⟨t,s,c,d,r⟩∧tget t ti = .int .i64 i∧tget t tn = .int .i64 n∧I i t s c) ⟨t0,s0,c0,rfl,hi,hn,h0⟩ ?_
 rintro i x hi' ⟨t,s,c,rfl,h1,h2,h3⟩
 simp only [ex_code,ex_op,ex_st,ex_val,ex_num,h1,h2,↓reduceIte,Option.map_some,Int.ofNat_lt]
 by_cases hlt:i<n
 ·have hg:=hs i t s c hlt h3 h1 h2
  simp only [hlt,decide_true,ex_code]
  cases hb:zblkR id' (zC body cx cl k ⟨tput t tc (.bool true),s,c,d,r⟩) with
  | no=>rw [hb] at hg; exact hg.elim
  | ok o z=>
   rw [hb] at hg
   cases o with
   | normal=>
    obtain ⟨g1,g2,g3,g4,g5,g6,g7⟩:=hg
    left
    obtain ⟨zt,zs,zc,zd,zr⟩:=z
    simp only at g1 g2 g3 g4 g7
    subst g1 g2
    have g4':tget zt tn = .int .i64 n:=by
     rcases g4 with e|e|e
     ·exact absurd e g5
     ·exact absurd e g6
     ·exact e
    simp only [ex_code,ex_op,ex_st,ex_val,ex_num,g3,Option.map_some,inc_i64 (show i<9223372036854775807 by omega),↓reduceIte]
    refine ⟨_,rfl,trivial,_,_,_,rfl,?_,?_,g7⟩
    ·rw [tget_tput,if_pos rfl]
    ·rw [tget_tput,if_neg g5,tget_tput,if_neg g6]; exact g4'
   | exit j=>right; exact ⟨hg,fun y h=>by simp only [ex_code] at h; cases h⟩
   | ret=>right; exact ⟨hg,fun y h=>by simp only [ex_code] at h; cases h⟩
   | pan ch=>right; exact ⟨hg,fun y h=>by simp only [ex_code] at h; cases h⟩
 ·have e:i=n:=by omega
  subst e
  right
  simp only [hlt,decide_false,ex_code]
  exact ⟨he t s c h3 h1 h2,fun y h=>by cases h⟩
theorem ex_dat:(∀ (cs:List D) (off:Nat),takeAt cs off none=cs[off]?)∧(∀ (s:St) (cs:List D) (off:Nat),seen s (.iptr cs off)=some (cs,off)) ∧
  (∀ (s:St) (nm off:Nat),seen s (.ptr nm off)=(sget s nm).bind fun b=>(blkCells b).map fun cs=>(cs,off))∧(∀ (ty:Nat) (cs:List D),blkCells (.fix ty cs)=some cs)∧(∀ (ty:Nat) (cs:List D),blkCells (.grow ty cs)=some cs) ∧
  (∀ (k:IntKind) (i:Int),(D.int k i).cells?=some [.int k i])∧(∀ (b:Bool),(D.bool b).cells?=some [.bool b])∧(∀ (b:List UInt8),(D.str b).cells?=some [.str b])∧(∀ (cs:List D),(D.agg cs).cells?=some cs)∧(D.nils.cells?=some [.nils]) ∧
  (∀ (a b c d e:Nat),(D.ms a b c d e).cells?=some [.ms a b c d e])∧(∀ (a b c d:Nat),(D.gs a b c d).cells?=some [.gs a b c d])∧(∀ (a b:Nat),(D.ptr a b).cells?=some [.ptr a b])∧(∀ (a:Nat),(D.mp a).cells?=some [.mp a]) ∧
  (∀ (off:Nat) (cs:List D),setAt cs off ([]:List D)=cs)∧(∀ (off:Nat) (cs:List D) (v:D) (vs:List D),setAt cs off (v::vs)=setAt (cs.set off v) (off+1) vs) ∧
  (∀ (a b:Nat),Nat.ble a b=decide (a≤b))∧(∀ (a b:Nat),Nat.beq a b=decide (a=b)) ∧
  (∀ (k:IntKind) (i:Int),isAg (.int k i)=false)∧(∀ (b:Bool),isAg (.bool b)=false)∧(∀ (b:List UInt8),isAg (.str b)=false)∧(isAg .nils=false)∧(∀ (a b c d e:Nat),isAg (.ms a b c d e)=false)∧(∀ (a b c d:Nat),isAg (.gs a b c d)=false)∧(∀ (a b:Nat),isAg (.ptr a b)=false)∧(∀ (a:Nat),isAg (.mp a)=false):=by
 refine ⟨fun _ _=>rfl,fun _ _ _=>rfl,fun s nm off => ?_,fun _ _=>rfl,fun _ _=>rfl,fun _ _=>rfl,fun _=>rfl,fun _=>rfl,fun _=>rfl,rfl,fun _ _ _ _ _=>rfl,fun _ _ _ _=>rfl,fun _ _=>rfl,fun _=>rfl,fun _ _=>by simp [setAt],fun _ _ _ _=>rfl,
  fun a b => ?_,fun a b => ?_,fun _ _=>rfl,fun _=>rfl,fun _=>rfl,rfl,fun _ _ _ _ _=>rfl,fun _ _ _ _=>rfl,fun _ _=>rfl,fun _=>rfl⟩
 ·simp only [seen,Option.bind_eq_bind]
  cases sget s nm with
  | none=>rfl
  | some b=>simp only [Option.bind_some]; cases blkCells b <;> rfl
 ·rw [Bool.eq_iff_iff]; simp [Nat.ble_eq]
 ·rw [Bool.eq_iff_iff]; simp [Nat.beq_eq]
theorem ex_str:(∀ (x y:List UInt8),binD .eql (.str x) (.str y)=some (.bool (decide (x=y))))∧(∀ (x y:List UInt8),binD .neq (.str x) (.str y)=some (.bool (!decide (x=y))))∧(∀ (s:List UInt8),lenD true (.str s)=some s.length) ∧
  (∀ (b:Bool),unD .not (.bool b)=some (.bool (!b)))∧(∀ (k:IntKind) (n:Int),unD .neg (.int k n)=some (.int k (wrapD k (0-n))))∧(∀ (G:List (Nat × List D)) (t:Tm) (n:Nat),(Arg.g n).ev G t=(match lget G n with|some l => .iptr l 0|none => .un)) ∧
  (∀ (a:D),aggD a=[a])∧(∀ (o:Option D),undD o=match o with|some d=>d|none => .un):=by
 refine ⟨fun x y => ?_,fun x y => ?_,fun _=>rfl,fun _=>rfl,fun _ _=>rfl,fun G t n => ?_,fun _=>rfl,fun o=>by cases o <;> rfl⟩
 ·show some (D.bool (x==y))=_
  rw [show (x==y)=decide (x=y) from by rw [Bool.eq_iff_iff]; simp]
 ·show some (D.bool (!(x==y)))=_
  rw [show (x==y)=decide (x=y) from by rw [Bool.eq_iff_iff]; simp]
 ·show (Option.rec D.un (fun l=>D.iptr l 0) (lget G n):D)=_
  cases lget G n <;> rfl
theorem ex_gd:(∀ (cx:Cx) (cl:CL) (dst:Option Nat) (op:AOp) (g:Nat) (w:Bool) (r:List AOper) (x:AS),zOps cx cl (⟨dst,op,some (g,w)⟩::r) x=zgd (tget x.t g) w (zbind (zOp cx cl ⟨dst,op,some (g,w)⟩ x) (zOps cx cl r)) (zOps cx cl r ⟨putT dst x.t (.tup []),x.s,x.c,x.d,x.r⟩)):=
 zOps_g
theorem idxD_0 {n:Nat} {k:IntKind} (h:0<n):idxD n (.int k 0)=some 0:=idxD_nat (i:=0) h
theorem ex_call:(∀ (o:List D→Option (D × Bool)) (args:List D) (s:St) (c:Nat),pcall o args s c=(match args.mapM (frz false 20 s) with
   | some fa=>match o fa with
    | some p=>bif p.2||(p.1.flat||D.pures args) then .ok (.ret p.1) s c else .no
    | none => .no
   | none => .no)) ∧
  (∀ (f:D→Option D),([]:List D).mapM f=some [])∧(∀ (f:D→Option D) (a:D) (l:List D),(a::l).mapM f=(f a).bind fun b=>(l.mapM f).map fun r=>b::r) ∧
  (∀ (p:Bool) (n:Nat) (s:St) (k:IntKind) (i:Int),frz p (n+1) s (.int k i)=some (.int k i))∧(∀ (p:Bool) (n:Nat) (s:St) (b:Bool),frz p (n+1) s (.bool b)=some (.bool b))∧(∀ (p:Bool) (n:Nat) (s:St) (b:List UInt8),frz p (n+1) s (.str b)=some (.str b)) ∧
  (∀ (p:Bool) (n:Nat) (s:St) (cs:List D),frz p (n+1) s (.agg cs)=(cs.mapM (frz p n s)).map .agg)∧(∀ (p:Bool) (n:Nat) (s:St) (cs:List D),frz p (n+1) s (.tup cs)=(cs.mapM (frz p n s)).map .tup) ∧
  (∀ (p:Bool) (n:Nat) (s:St),frz p (n+1) s .nils=some .nils)∧(∀ (p:Bool) (n:Nat) (s:St),frz p (n+1) s .nilp=some .nilp)∧(∀ (n:Nat) (s:St) (cs:List D) (o:Nat),frz false (n+1) s (.iptr cs o)=some (.iptr cs o)) ∧
  (∀ (n:Nat) (s:St) (e:Bool) (l:Nat) (cs:List D),frz false (n+1) s (.sl e l cs)=some (.sl e l cs)) ∧
  (∀ (p:Bool) (n:Nat) (s:St) (f:Fn) (a b:List D),frz p (n+1) s (.fn f a b)=(a.mapM (frz p n s)).bind fun a=>(b.mapM (frz p n s)).map fun b => .fn f a b) ∧
  (∀ (p:Bool) (n:Nat) (s:St) (nm off:Nat),frz p (n+1) s (.ptr nm off)=(match sget s nm with
   | some (.fix _ cs)=>(cs.mapM (frz p n s)).map fun cs => .iptr cs off
   | _=>none)):=by
 refine ⟨fun _ _ _ _=>rfl,fun _=>rfl,fun f a l => ?_,fun _ _ _ _ _=>rfl,fun _ _ _ _=>rfl,fun _ _ _ _=>rfl,fun _ _ _ _=>rfl,fun _ _ _ _=>rfl,fun _ _ _=>rfl,fun _ _ _=>rfl,fun _ _ _ _=>rfl,fun _ _ _ _ _=>rfl,fun p n s f a b => ?_,fun _ _ _ _ _=>rfl⟩
 ·simp only [List.mapM_cons,Option.bind_eq_bind,Option.pure_def]
  cases f a with
  | none=>rfl
  | some b=>simp only [Option.bind_some]; cases l.mapM f <;> rfl
 ·simp only [frz,Option.bind_eq_bind]
  cases a.mapM (frz p n s) with
  | none=>rfl
  | some q=>simp only [Option.bind_some]; cases b.mapM (frz p n s) <;> rfl
theorem ex_opt:(∀ (h:Decidable True),@decide True h=true)∧(∀ (h:Decidable False),@decide False h=false)∧(∀ (α β:Type) (f:α→β) (a:α),(some a).map f=some (f a))∧(∀ (α β:Type) (f:α→β),(none:Option α).map f=none)∧(∀ (α β:Type) (f:α→Option β) (a:α),(some a).bind f=f a)∧(∀ (α β:Type) (f:α→Option β),(none:Option α).bind f=none) ∧
  (∀ (α β:Type) (x:Option α) (f:α→Option β),(x >>= f)=x.bind f)∧(∀ (α:Type) (x y:α),(bif true then x else y)=x)∧(∀ (α:Type) (x y:α),(bif false then x else y)=y) ∧
  ((!true)=false)∧((!false)=true)∧(∀ b,(true||b)=true)∧(∀ b,(false||b)=b)∧(∀ b,(b||true)=true)∧(∀ b,(b||false)=b)∧(∀ b,(true&&b)=b)∧(∀ b,(false&&b)=false)∧(∀ b,(b&&true)=b)∧(∀ b,(b&&false)=false):=by
 refine ⟨fun _=>decide_eq_true trivial,fun _=>decide_eq_false id,fun _ _ _ _=>rfl,fun _ _ _=>rfl,fun _ _ _ _=>rfl,fun _ _ _=>rfl,fun _ _ _ _=>rfl,fun _ _ _=>rfl,fun _ _ _=>rfl,rfl,rfl,fun b => ?_,fun b => ?_,fun b => ?_,fun b => ?_,fun b => ?_,fun b => ?_,fun b => ?_,fun b => ?_⟩ <;> cases b <;> rfl
theorem ex_lst:(∀ (a:D) (l:List D),(a::l).length=l.length+1)∧(([]:List D).length=0)∧(∀ (a v:D) (l:List D),(a::l).set 0 v=v::l)∧(∀ (a v:D) (l:List D) (n:Nat),(a::l).set (n+1) v=a::l.set n v) ∧
  (∀ (a:D) (l:List D),(a::l)[0]?=some a)∧(∀ (a:D) (l:List D) (n:Nat),(a::l)[n+1]?=l[n]?)∧(∀ (n:Nat),([]:List D)[n]?=none)∧(∀ (a:D) (l:List D),(a::l).any isAg=(isAg a||l.any isAg))∧(([]:List D).any isAg=false) ∧
  (∀ (l:List D),l.drop 0=l)∧(∀ (a:D) (l:List D) (n:Nat),(a::l).drop (n+1)=l.drop n)∧(∀ (l:List D),l.take 0=[])∧(∀ (a:D) (l:List D) (n:Nat),(a::l).take (n+1)=a::l.take n)∧(∀ (n:Nat),([]:List D).take n=[])∧(∀ (n:Nat),([]:List D).drop n=[]) ∧
  (∀ (cs:List D) (off n:Nat),takeAt cs off (some n)=bif Nat.ble (off+n) cs.length then some (.agg ((cs.drop off).take n)) else none) ∧
  (∀ (G:List (Nat × List D)) (t:Tm),parts G t []=[])∧(∀ (G:List (Nat × List D)) (t:Tm) (o n:Nat) (a:Arg) (l:List (Nat × Nat × Arg)),parts G t ((o,n,a)::l)=(o,n,a.ev G t)::parts G t l) ∧
  (∀ (cs:List D),place cs []=some cs)∧(∀ (cells:List D) (off n:Nat) (d:D) (r:List (Nat × Nat × D)),place cells ((off,n,d)::r)=(match d.cells? with
   | some cs=>bif Nat.beq cs.length n&&Nat.ble (off+n) cells.length then place (setAt cells off cs) r else none
   | none=>none)) ∧
  (∀ (ty off:Nat) (cs vs:List D),stB (.fix ty cs) off vs=bif vs.any isAg then none else bif Nat.ble (off+vs.length) cs.length then some (.fix ty (setAt cs off vs)) else none):=by
 refine ⟨fun _ _=>rfl,rfl,fun _ _ _=>rfl,fun _ _ _ _=>rfl,fun _ _=>rfl,fun _ _ _=>rfl,fun _=>rfl,fun _ _=>rfl,rfl,fun _=>rfl,fun _ _ _=>rfl,fun _=>rfl,fun _ _ _=>rfl,fun _=>List.take_nil,fun _=>List.drop_nil,fun _ _ _=>rfl,fun _ _=>rfl,fun _ _ _ _ _ _=>rfl,fun _=>rfl,fun _ _ _ _ _=>rfl,fun _ _ _ _=>rfl⟩
theorem ex:type_of% ex_code∧type_of% ex_op∧type_of% ex_st∧type_of% ex_val∧type_of% ex_num∧type_of% ex_end∧type_of% ex_any∧type_of% ex_dat∧type_of% ex_str∧type_of% ex_gd∧type_of% ex_opt∧type_of% ex_lst∧type_of% @go1:=⟨ex_code,ex_op,ex_st,ex_val,ex_num,ex_end,ex_any,ex_dat,ex_str,ex_gd,ex_opt,ex_lst,@go1⟩
end Zv
namespace Zv
open Go
theorem wrap_nat {k:IntKind} {x:Nat} (h:x≤hiK k):k.wrap (x:Int)=(x:Int):=by
 rw [←wrapD_eq]; exact wrapD_fits (by omega) (by omega)
theorem binD_bits {op:BinOp} (k:IntKind) (x y:Int) (h:op = .and∨op = .or∨op = .xor∨op = .andNot):binD op (.int k x) (.int k y)=bitsD op k x y:=by
 rcases h with rfl|rfl|rfl|rfl <;> simp [binD,intD]
theorem b_and_u8 {x y:Nat} (hx:x<256) (hy:y<256):binD .and (.int .u8 (x:Int)) (.int .u8 (y:Int))=some (.int .u8 ((x&&&y:Nat):Int)):=by
 have h:x&&&y<256:=Nat.lt_of_le_of_lt Nat.and_le_left hx
 rw [binD_bits _ _ _ (.inl rfl)]
 simp only [bitsD,BitVec.ofInt_natCast,BitVec.toNat_and,BitVec.toNat_ofNat]
 rw [Nat.mod_eq_of_lt (show x<2 ^ IntKind.bits .u8 from hx),Nat.mod_eq_of_lt (show y<2 ^ IntKind.bits .u8 from hy),wrap_nat (show _≤255 by omega)]
theorem b_or_u8 {x y:Nat} (hx:x<256) (hy:y<256):binD .or (.int .u8 (x:Int)) (.int .u8 (y:Int))=some (.int .u8 ((x ||| y:Nat):Int)):=by
 have h:x ||| y<256:=Nat.or_lt_two_pow (n:=8) hx hy
 rw [binD_bits _ _ _ (.inr (.inl rfl))]
 simp only [bitsD,BitVec.ofInt_natCast,BitVec.toNat_or,BitVec.toNat_ofNat]
 rw [Nat.mod_eq_of_lt (show x<2 ^ IntKind.bits .u8 from hx),Nat.mod_eq_of_lt (show y<2 ^ IntKind.bits .u8 from hy),wrap_nat (show _≤255 by omega)]
theorem fdiv_nat (x y:Nat):Int.fdiv (x:Int) (y:Int)=((x / y:Nat):Int):=Int.fdiv_eq_ediv_of_nonneg _ (by omega)
theorem shr_small {x:Nat} (b w:Nat) (hx:x<2 ^ w):x / 2 ^ (min b w)=x >>> b:=by
 rw [Nat.shiftRight_eq_div_pow]
 by_cases h:b≤w
 ·rw [Nat.min_eq_left h]
 ·rw [Nat.min_eq_right (by omega),Nat.div_eq_of_lt hx,Nat.div_eq_of_lt]
  exact Nat.lt_of_lt_of_le hx (Nat.pow_le_pow_right (by omega) (by omega))
theorem binD_shr (k j:IntKind) (x y:Int):binD .shr (.int k x) (.int j y)=shD .shr k x y:=rfl
theorem binD_shl (k j:IntKind) (x y:Int):binD .shl (.int k x) (.int j y)=shD .shl k x y:=rfl
theorem b_shr_u8 {x:Nat} (b:Nat) (hx:x<256) {j:IntKind}:binD .shr (.int .u8 (x:Int)) (.int j (b:Int))=some (.int .u8 ((x >>> b:Nat):Int)):=by
 rw [binD_shr]
 simp only [shD]
 rw [if_neg (by omega),Int.toNat_natCast,show ((2:Int) ^ (min b (IntKind.bits .u8)))=((2 ^ (min b 8):Nat):Int) by rw [Int.natCast_pow]; rfl,fdiv_nat,shr_small b 8 hx]
theorem bit_eq (x b:Nat):(x >>> b)&&&1=if x.testBit b then 1 else 0:=by
 rw [Nat.and_comm,Nat.testBit]
 have:1&&&x >>> b=(x >>> b) % 2:=by rw [Nat.and_comm,Nat.and_one_is_mod]
 rw [this]
 have h2:(x >>> b) % 2<2:=Nat.mod_lt _ (by omega)
 have h3:(x >>> b) % 2=0∨(x >>> b) % 2=1:=by omega
 rcases h3 with h|h <;> simp [h]
theorem shr_lt {x w:Nat} (b:Nat) (h:x<w):x >>> b<w:=Nat.lt_of_le_of_lt (Nat.shiftRight_le x b) h
def bitN (x b:Nat):Nat:=if x.testBit b then 1 else 0
theorem b_bit_u8 {x:Nat} (b:Nat) (hx:x<256):binD .and (.int .u8 ((x >>> b:Nat):Int)) (.int .u8 1)=some (.int .u8 ((bitN x b:Nat):Int)):=by
 rw [show (1:Int)=((1:Nat):Int) from rfl,b_and_u8 (shr_lt b hx) (by omega),bit_eq]; rfl
theorem bitN_1 (x b:Nat):decide (((bitN x b:Nat):Int)=1)=x.testBit b:=by unfold bitN; cases x.testBit b <;> rfl
theorem bitN_0 (x b:Nat):decide (((bitN x b:Nat):Int)=0) = !x.testBit b:=by unfold bitN; cases x.testBit b <;> rfl
theorem two_pow_lt {i:Nat} (h:i<8):2 ^ i<256:=Nat.pow_lt_pow_right (a:=2) (m:=i) (n:=8) (by omega) h
theorem b_shl_bit {x b i:Nat} (hi:i<8) {j:IntKind}:binD .shl (.int .u8 ((bitN x b:Nat):Int)) (.int j (i:Int))=some (.int .u8 ((if x.testBit b then 2 ^ i else 0:Nat):Int)):=by
 rw [binD_shl]
 simp only [shD]
 rw [if_neg (by omega),Int.toNat_natCast,show IntKind.bits .u8=8 from rfl,Nat.min_eq_left (by omega)]
 have h2:=two_pow_lt hi
 unfold bitN
 cases x.testBit b
 ·simp only [Bool.false_eq_true,if_false,Int.natCast_zero,Int.zero_mul]; rfl
 ·simp only [if_true]
  rw [show ((1:Nat):Int)*2 ^ i=((2 ^ i:Nat):Int) by rw [Int.natCast_pow]; simp]
  generalize 2 ^ i=q at h2 ⊢
  rw [wrapD_fits (by simp only [loK]; omega) (by simp only [hiK]; omega)]
/-! The first place that says something. -/
def scan {β:Type} (p:Nat→Option β) (z:β):Nat→Nat→β
 | 0,_=>z
 | k+1,i=>match p i with
  | some r=>r
  | none=>scan p z k (i+1)
theorem scan_none {β:Type} {p:Nat→Option β} {z:β}:∀ {k i:Nat},(∀ j,i≤j→j<i+k→p j=none)→scan p z k i=z
 | 0,i,h=>rfl
 | k+1,i,h=>by
  simp only [scan,h i (Nat.le_refl i) (by omega)]
  exact scan_none fun j h1 h2=>h j (by omega) (by omega)
theorem scan_first {β:Type} {p:Nat→Option β} {z r:β}:∀ {k i m:Nat},i≤m→m<i+k→p m=some r→(∀ j,i≤j→j<m→p j=none)→scan p z k i=r
 | 0,i,m,h1,h2,hm,h=>by omega
 | k+1,i,m,h1,h2,hm,h=>by
  by_cases e:i=m
  ·subst e; simp only [scan,hm]
  ·simp only [scan,h i (Nat.le_refl i) (by omega)]
   exact scan_first (by omega) (by omega) hm fun j h3 h4=>h j (by omega) h4
theorem scan_cases {β:Type} (p:Nat→Option β) (z:β):∀ (k i:Nat),((∀ j,i≤j→j<i+k→p j=none)∧scan p z k i=z) ∨
  ∃ m r,i≤m∧m<i+k∧p m=some r∧(∀ j,i≤j→j<m→p j=none)∧scan p z k i=r
 | 0,i => .inl ⟨fun j h1 h2=>by omega,rfl⟩
 | k+1,i=>by
  cases hp:p i with
  | some r=>exact .inr ⟨i,r,Nat.le_refl i,by omega,hp,fun j h1 h2=>by omega,by simp only [scan,hp]⟩
  | none=>
   rcases scan_cases p z k (i+1) with ⟨h1,h2⟩|⟨m,r,h1,h2,h3,h4,h5⟩
   ·refine .inl ⟨fun j h3 h4 => ?_,by simp only [scan,hp,h2]⟩
    by_cases e:i=j
    ·rw [←e]; exact hp
    ·exact h1 j (by omega) (by omega)
   ·refine .inr ⟨m,r,by omega,by omega,h3,fun j h6 h7 => ?_,by simp only [scan,hp,h5]⟩
    by_cases e:i=j
    ·rw [←e]; exact hp
    ·exact h4 j (by omega) (by omega)
theorem scan_congr {β:Type} {p q:Nat→Option β} {z:β}:∀ {k i:Nat},(∀ j,i≤j→j<i+k→p j=q j)→scan p z k i=scan q z k i
 | 0,i,h=>rfl
 | k+1,i,h=>by
  simp only [scan,h i (Nat.le_refl i) (by omega)]
  rw [scan_congr (k:=k) (i:=i+1) fun j h1 h2=>h j (by omega) (by omega)]
theorem scan_at {β:Type} {p:Nat→Option β} {z r:β} {n m:Nat} (h:m<n) (hm:p m=some r) (hb:∀ j,j<m→p j=none):scan p z n 0=r:=scan_first (Nat.zero_le m) (by omega) hm fun j _ h=>hb j h
theorem scan_end {β:Type} {p:Nat→Option β} {z:β} {n:Nat} (hb:∀ j,j<n→p j=none):scan p z n 0=z:=scan_none fun j _ h=>hb j (by omega)
theorem none_step {β:Type} {p:Nat→Option β} {i:Nat} (h:∀ j,j<i→p j=none) (hi:p i=none):∀ j,j<i+1→p j=none:=fun j hj=>by
 rcases Nat.lt_succ_iff_lt_or_eq.1 hj with h1|rfl
 ·exact h j h1
 ·exact hi
end Zv
namespace Zv
open Go
noncomputable section
/-! A range over a map that stays as it is. -/
abbrev MEnt:=D × D × Nat
end
end Zv
namespace Zv
open Go
noncomputable section
@[elab_as_elim] theorem zfor {Q:R→Prop} (rl:R) {cx:Cx} {cl:CL} {k ti t1 t2 id':Nat} {C body:AC} {t0:Tm} {s0:St} {c0:Nat} {d:List (D × List D)} {r:Option Nat}
  (hz:zloop k (zC (.seq C (.seq (.block id' body) (.reg none [⟨some t1,.mv (.t ti),none⟩,⟨some t2,.bin .add (.t t1) (.c (.int .i64 1)),none⟩,⟨some ti,.mv (.t t2),none⟩]))) cx cl k) ⟨t0,s0,c0,d,r⟩=rl)
  (n:Nat) (hk:n<k) (h63:n<9223372036854775807) (I:Nat→Tm→St→Nat→Prop) (hi:tget t0 ti = .int .i64 0) (h0:I 0 t0 s0 c0)
  (hs:∀ i t s c,i≤n→I i t s c→tget t ti = .int .i64 i →
   Go1 Q (fun z=>i<n∧z.d=d∧z.r=r∧tget z.t ti = .int .i64 i∧I (i+1) (tput (tput (tput z.t t1 (.int .i64 (i:Nat))) t2 (.int .i64 (i+1:Nat))) ti (.int .i64 (i+1:Nat))) z.s z.c)
    (zbind (zC C cx cl k ⟨t,s,c,d,r⟩) fun y=>zblkR id' (zC body cx cl k y))):Q rl:=by
 refine zwhile rl hz n hk (fun i x=>∃ t s c,x=⟨t,s,c,d,r⟩∧tget t ti = .int .i64 i∧I i t s c) ⟨t0,s0,c0,rfl,hi,h0⟩ ?_
 rintro i x hin ⟨t,s,c,rfl,h1,h2⟩
 have hg:=hs i t s c hin h2 h1
 simp only [ex_code]
 cases hC:zC C cx cl k ⟨t,s,c,d,r⟩ with
 | no=>rw [hC] at hg; exact hg.elim
 | ok o y=>
  rw [hC] at hg
  cases o with
  | normal=>
   simp only [ex_code] at hg ⊢
   cases hb:zblkR id' (zC body cx cl k y) with
   | no=>rw [hb] at hg; exact hg.elim
   | ok o z=>
    rw [hb] at hg
    cases o with
    | normal=>
     obtain ⟨g0,g1,g2,g3,g4⟩:=hg
     obtain ⟨zt,zs,zc,zd,zr⟩:=z
     simp only at g1 g2 g3 g4
     subst g1 g2
     simp only [ex_code,ex_op,ex_st,ex_val,ex_num,g3,↓reduceIte,Option.map_some]
     rw [show wrapD .i64 ((i:Int)+1)=((i+1:Nat):Int) from inc_i64 (by omega)]
     exact ⟨g0,_,_,_,rfl,by rw [tget_tput,if_pos rfl],g4⟩
    | exit i=>simp only [ex_code]; exact hg
    | ret=>simp only [ex_code]; exact hg
    | pan c=>simp only [ex_code]; exact hg
  | exit i=>simp only [ex_code] at hg ⊢; exact hg
  | ret=>simp only [ex_code] at hg ⊢; exact hg
  | pan c=>simp only [ex_code] at hg ⊢; exact hg
theorem ex_ls0:(∀ (a:D) (l:List D),(a::l).length=l.length+1)∧(([]:List D).length=0)∧(∀ (a v:D) (l:List D),(a::l).set 0 v=v::l)∧(∀ (a v:D) (l:List D) (n:Nat),(a::l).set (n+1) v=a::l.set n v) ∧
  (∀ (a:D) (l:List D),(a::l)[0]?=some a)∧(∀ (a:D) (l:List D) (n:Nat),(a::l)[n+1]?=l[n]?)∧(∀ (n:Nat),([]:List D)[n]?=none)∧(∀ (a:D) (l:List D),(a::l).any isAg=(isAg a||l.any isAg))∧(([]:List D).any isAg=false) ∧
  (∀ (l:List D),l.drop 0=l)∧(∀ (a:D) (l:List D) (n:Nat),(a::l).drop (n+1)=l.drop n)∧(∀ (l:List D),l.take 0=[])∧(∀ (a:D) (l:List D) (n:Nat),(a::l).take (n+1)=a::l.take n)∧(∀ (n:Nat),([]:List D).take n=[])∧(∀ (n:Nat),([]:List D).drop n=[]) ∧
  (∀ (cs:List D) (off n:Nat),takeAt cs off (some n)=bif Nat.ble (off+n) cs.length then some (.agg ((cs.drop off).take n)) else none) ∧
  (∀ (G:List (Nat × List D)) (t:Tm),parts G t []=[])∧(∀ (G:List (Nat × List D)) (t:Tm) (o n:Nat) (a:Arg) (l:List (Nat × Nat × Arg)),parts G t ((o,n,a)::l)=(o,n,a.ev G t)::parts G t l) ∧
  (∀ (cs:List D),place cs []=some cs)∧(∀ (cells:List D) (off n:Nat) (d:D) (r:List (Nat × Nat × D)),place cells ((off,n,d)::r)=(match d.cells? with
   | some cs=>bif Nat.beq cs.length n&&Nat.ble (off+n) cells.length then place (setAt cells off cs) r else none
   | none=>none)):=by
 refine ⟨fun _ _=>rfl,rfl,fun _ _ _=>rfl,fun _ _ _ _=>rfl,fun _ _=>rfl,fun _ _ _=>rfl,fun _=>rfl,fun _ _=>rfl,rfl,fun _=>rfl,fun _ _ _=>rfl,fun _=>rfl,fun _ _ _=>rfl,fun _=>List.take_nil,fun _=>List.drop_nil,fun _ _ _=>rfl,fun _ _=>rfl,fun _ _ _ _ _ _=>rfl,fun _=>rfl,fun _ _ _ _ _=>rfl⟩
theorem exq:type_of% ex_code∧type_of% ex_op∧type_of% ex_st∧type_of% ex_val∧type_of% ex_num∧type_of% ex_end∧type_of% ex_any∧type_of% ex_dat∧type_of% ex_str∧type_of% ex_gd∧type_of% ex_opt∧type_of% @go1:=⟨ex_code,ex_op,ex_st,ex_val,ex_num,ex_end,ex_any,ex_dat,ex_str,ex_gd,ex_opt,@go1⟩
end
theorem exb:(true==false)=false∧(false==true)=false∧(!true)=false∧(!false)=true∧(∀ n:Nat,0+n=n):=⟨rfl,rfl,rfl,rfl,Nat.zero_add⟩
theorem at_c:(∀ n t,argTm n [] t=t)∧(∀ n a l t,argTm n (a::l) t=argTm (n+1) l (tput t n a)):=⟨fun _ _=>rfl,fun _ _ _ _=>rfl⟩
theorem z0:type_of% start_eq∧type_of% at_c∧type_of% ex∧type_of% exb∧type_of% Ab.abq:=⟨start_eq,at_c,ex,exb,Ab.abq⟩
theorem z1:type_of% start_eq∧type_of% at_c∧type_of% exq∧type_of% ex_ls0∧type_of% exb∧type_of% Ab.abq:=⟨start_eq,at_c,exq,ex_ls0,exb,Ab.abq⟩
end Zv
