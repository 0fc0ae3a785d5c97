/- Running abstract code by rewriting: laws of the evaluator. Conditions: none. -/
import Derived.Test.YtnpoohbeicakkaaGreatDoorCH
import Derived.Test.YtnpoohbeicakkaaGreatDoorCI
set_option linter.unusedVariables false
set_option linter.unusedSimpArgs false
namespace Zv
open Go
noncomputable section
def zcond (v : D) (p q : R) : R := match v with
  | .bool r => bif r then p else q
  | _ => .no
@[congr] theorem zcond_congr {v v' : D} (h : v = v') (p q : R) : zcond v p q = zcond v' p q := by rw [h]
@[congr] theorem zbind_congr {r r' : R} (h : r = r') (K : AS → R) : zbind r K = zbind r' K := by rw [h]
def zblkR (id : Nat) (r : R) : R := R.rec .no (zblk id) r
section
variable (cx : Cx) (cl : CL) (k : Nat) (x : AS)
theorem zC_cond (c : Arg) (a b : AC) : zC (.cond c a b) cx cl k x = zcond (c.ev cx.G x.t) (zC a cx cl k x) (zC b cx cl k x) := by
  show zc_cond c a b (zC a) (zC b) cx cl k x = _
  unfold zc_cond zcond
  cases c.ev cx.G x.t <;> try rfl
  rename_i r; cases r <;> rfl
end
theorem ex_code : (∀ (cx : Cx) (cl : CL) (k : Nat) (x : AS), zC .skip cx cl k x = .ok .normal x) ∧
    (∀ (cx : Cx) (cl : CL) (k : Nat) (x : AS) (ops : List AOper), zC (.reg none ops) cx cl k x = zOps cx cl ops x) ∧
    (∀ (cx : Cx) (cl : CL) (k : Nat) (x : AS) (a b : AC), zC (.seq a b) cx cl k x = zbind (zC a cx cl k x) (zC b cx cl k)) ∧
    (∀ (cx : Cx) (cl : CL) (k : Nat) (x : AS) (c : Arg) (a b : AC), zC (.cond c a b) cx cl k x = zcond (c.ev cx.G x.t) (zC a cx cl k x) (zC b cx cl k x)) ∧
    (∀ (cx : Cx) (cl : CL) (k : Nat) (x : AS) (i : Nat) (a : AC), zC (.block i a) cx cl k x = zblkR i (zC a cx cl k x)) ∧
    (∀ (cx : Cx) (cl : CL) (k : Nat) (x : AS) (a : AC), zC (.loop a) cx cl k x = zloop k (zC a cx cl k) x) ∧
    (∀ (cx : Cx) (cl : CL) (k : Nat) (x : AS) (i : Nat), zC (.exit i) cx cl k x = .ok (.exit i) x) ∧
    (∀ (cx : Cx) (cl : CL) (k : Nat) (x : AS) (a : AC), zC (.scope a) cx cl k x = zC a cx cl k x) ∧
    (∀ (cx : Cx) (cl : CL) (k : Nat) (x : AS), zC .ret cx cl k x = .ok .ret x) ∧
    (∀ (p q : R), zcond (.bool true) p q = p) ∧ (∀ (p q : R), zcond (.bool false) p q = q) ∧
    (∀ (x : AS) (K : AS → R), zbind (.ok .normal x) K = K x) ∧ (∀ (i : Nat) (x : AS) (K : AS → R), zbind (.ok (.exit i) x) K = .ok (.exit i) x) ∧
    (∀ (x : AS) (K : AS → R), zbind (.ok .ret x) K = .ok .ret x) ∧ (∀ (c : Ch) (x : AS) (K : AS → R), zbind (.ok (.pan c) x) K = .ok (.pan c) x) ∧
    (∀ (K : AS → R), zbind .no K = .no) ∧
    (∀ (i : Nat) (x : AS), zblkR i (.ok .normal x) = .ok .normal x) ∧ (∀ (i : Nat) (x : AS), zblkR i (.ok .ret x) = .ok .ret x) ∧ (∀ (i : Nat) (c : Ch) (x : AS), zblkR i (.ok (.pan c) x) = .ok (.pan c) x) ∧
    (∀ (i j : Nat) (x : AS), zblkR i (.ok (.exit j) x) = if j = i then .ok .normal x else .ok (.exit j) x) ∧
    (∀ (cx : Cx) (cl : CL) (x : AS), zOps cx cl [] x = .ok .normal x) ∧
    (∀ (cx : Cx) (cl : CL) (x : AS) (dst : Option Nat) (op : AOp) (r : List AOper), zOps cx cl (⟨dst, op, none⟩ :: r) x = zbind (zOp cx cl ⟨dst, op, none⟩ x) (zOps cx cl r)) := by
  refine ⟨fun _ _ _ _ => rfl, fun _ _ _ _ _ => rfl, fun _ _ _ _ _ _ => rfl, zC_cond, fun _ _ _ _ _ _ => rfl, fun _ _ _ _ _ => rfl, fun _ _ _ _ _ => rfl, fun _ _ _ _ _ => rfl, fun _ _ _ _ => rfl,
    fun _ _ => rfl, fun _ _ => rfl, fun _ _ => rfl, fun _ _ _ => rfl, fun _ _ => rfl, fun _ _ _ => rfl, fun _ => rfl, fun _ _ => rfl, fun _ _ => rfl, fun _ _ _ => rfl, fun i j x => ?_, fun _ _ _ => rfl, fun _ _ _ _ _ _ => rfl⟩
  show (Bool.rec (.ok (.exit j) x) (.ok .normal x) (Nat.beq j i) : R) = _
  by_cases h : j = i
  · subst h; simp
  · rw [if_neg h, beq_ne h]
theorem ex_op : (∀ (cx : Cx) (cl : CL) (dst : Option Nat) (g : Option (Nat × Bool)) (x : AS) (a0 : Arg), zOp cx cl ⟨dst, .mv a0, g⟩ x = zval dst (st_mv a0 cx.G x)) ∧
    (∀ (cx : Cx) (cl : CL) (dst : Option Nat) (g : Option (Nat × Bool)) (x : AS) (a0 : Arg) (a1 : Arg) (a2 : Arg), zOp cx cl ⟨dst, .pick a0 a1 a2, g⟩ x = zval dst (st_pick a0 a1 a2 cx.G x)) ∧
    (∀ (cx : Cx) (cl : CL) (dst : Option Nat) (g : Option (Nat × Bool)) (x : AS) (a0 : Nat) (a1 : Arg), zOp cx cl ⟨dst, .new a0 a1, g⟩ x = zval dst (st_new a0 a1 cx.G x)) ∧
    (∀ (cx : Cx) (cl : CL) (dst : Option Nat) (g : Option (Nat × Bool)) (x : AS) (a0 : Option Nat) (a1 : Arg), zOp cx cl ⟨dst, .ld a0 a1, g⟩ x = zval dst (st_ld a0 a1 cx.G x)) ∧
    (∀ (cx : Cx) (cl : CL) (dst : Option Nat) (g : Option (Nat × Bool)) (x : AS) (a0 : Nat) (a1 : Arg) (a2 : Arg), zOp cx cl ⟨dst, .st a0 a1 a2, g⟩ x = zval dst (st_st a0 a1 a2 cx.G x)) ∧
    (∀ (cx : Cx) (cl : CL) (dst : Option Nat) (g : Option (Nat × Bool)) (x : AS) (a0 : Nat) (a1 : Arg), zOp cx cl ⟨dst, .fa a0 a1, g⟩ x = zval dst (st_fa a0 a1 cx.G x)) ∧
    (∀ (cx : Cx) (cl : CL) (dst : Option Nat) (g : Option (Nat × Bool)) (x : AS) (a0 : Nat) (a1 : Nat) (a2 : Arg) (a3 : Arg), zOp cx cl ⟨dst, .iaA a0 a1 a2 a3, g⟩ x = zval dst (st_iaA a0 a1 a2 a3 cx.G x)) ∧
    (∀ (cx : Cx) (cl : CL) (dst : Option Nat) (g : Option (Nat × Bool)) (x : AS) (a0 : Nat) (a1 : Arg) (a2 : Arg), zOp cx cl ⟨dst, .iaS a0 a1 a2, g⟩ x = zval dst (st_iaS a0 a1 a2 cx.G x)) ∧
    (∀ (cx : Cx) (cl : CL) (dst : Option Nat) (g : Option (Nat × Bool)) (x : AS) (a0 : Nat) (a1 : Nat) (a2 : Bool) (a3 : Arg) (a4 : Arg), zOp cx cl ⟨dst, .ixA a0 a1 a2 a3 a4, g⟩ x = zval dst (st_ixA a0 a1 a2 a3 a4 cx.G x)) ∧
    (∀ (cx : Cx) (cl : CL) (dst : Option Nat) (g : Option (Nat × Bool)) (x : AS) (a0 : Arg) (a1 : Arg), zOp cx cl ⟨dst, .ixS a0 a1, g⟩ x = zval dst (st_ixS a0 a1 cx.G x)) ∧
    (∀ (cx : Cx) (cl : CL) (dst : Option Nat) (g : Option (Nat × Bool)) (x : AS) (a0 : Nat) (a1 : Option Nat) (a2 : Arg), zOp cx cl ⟨dst, .fld a0 a1 a2, g⟩ x = zval dst (st_fld a0 a1 a2 cx.G x)) ∧
    (∀ (cx : Cx) (cl : CL) (dst : Option Nat) (g : Option (Nat × Bool)) (x : AS) (a0 : Nat) (a1 : Arg), zOp cx cl ⟨dst, .ext a0 a1, g⟩ x = zval dst (st_ext a0 a1 cx.G x)) ∧
    (∀ (cx : Cx) (cl : CL) (dst : Option Nat) (g : Option (Nat × Bool)) (x : AS) (a0 : BinOp) (a1 : Arg) (a2 : Arg), zOp cx cl ⟨dst, .bin a0 a1 a2, g⟩ x = zval dst (st_bin a0 a1 a2 cx.G x)) ∧
    (∀ (cx : Cx) (cl : CL) (dst : Option Nat) (g : Option (Nat × Bool)) (x : AS) (a0 : Bool) (a1 : EK) (a2 : Arg) (a3 : Arg), zOp cx cl ⟨dst, .cmp a0 a1 a2 a3, g⟩ x = zval dst (st_cmp a0 a1 a2 a3 cx.G x)) ∧
    (∀ (cx : Cx) (cl : CL) (dst : Option Nat) (g : Option (Nat × Bool)) (x : AS) (a0 : UnOp) (a1 : Arg), zOp cx cl ⟨dst, .un a0 a1, g⟩ x = zval dst (st_un a0 a1 cx.G x)) ∧
    (∀ (cx : Cx) (cl : CL) (dst : Option Nat) (g : Option (Nat × Bool)) (x : AS) (a0 : List D) (a1 : List (Nat × Nat × Arg)), zOp cx cl ⟨dst, .bld a0 a1, g⟩ x = zval dst (st_bld a0 a1 cx.G x)) ∧
    (∀ (cx : Cx) (cl : CL) (dst : Option Nat) (g : Option (Nat × Bool)) (x : AS) (a0 : Nat) (a1 : Nat) (a2 : List D) (a3 : List (Nat × Nat × Arg)), zOp cx cl ⟨dst, .bsl a0 a1 a2 a3, g⟩ x = zval dst (st_bsl a0 a1 a2 a3 cx.G x)) ∧
    (∀ (cx : Cx) (cl : CL) (dst : Option Nat) (g : Option (Nat × Bool)) (x : AS) (a0 : Nat) (a1 : Nat) (a2 : List D) (a3 : Arg) (a4 : Arg), zOp cx cl ⟨dst, .mks a0 a1 a2 a3 a4, g⟩ x = zval dst (st_mks a0 a1 a2 a3 a4 cx.G x)) ∧
    (∀ (cx : Cx) (cl : CL) (dst : Option Nat) (g : Option (Nat × Bool)) (x : AS) (a0 : Arg) (a1 : Option Arg) (a2 : Option Arg), zOp cx cl ⟨dst, .slS a0 a1 a2, g⟩ x = zval dst (st_slS a0 a1 a2 cx.G x)) ∧
    (∀ (cx : Cx) (cl : CL) (dst : Option Nat) (g : Option (Nat × Bool)) (x : AS) (a0 : Nat) (a1 : Arg) (a2 : Option Arg) (a3 : Option Arg) (a4 : Option Arg), zOp cx cl ⟨dst, .slV a0 a1 a2 a3 a4, g⟩ x = zval dst (st_slV a0 a1 a2 a3 a4 cx.G x)) ∧
    (∀ (cx : Cx) (cl : CL) (dst : Option Nat) (g : Option (Nat × Bool)) (x : AS) (a0 : Nat) (a1 : Nat) (a2 : Arg) (a3 : Option Arg) (a4 : Option Arg) (a5 : Option Arg), zOp cx cl ⟨dst, .slA a0 a1 a2 a3 a4 a5, g⟩ x = zval dst (st_slA a0 a1 a2 a3 a4 a5 cx.G x)) ∧
    (∀ (cx : Cx) (cl : CL) (dst : Option Nat) (g : Option (Nat × Bool)) (x : AS) (a0 : Bool) (a1 : Arg), zOp cx cl ⟨dst, .len a0 a1, g⟩ x = zval dst (st_len a0 a1 cx.G x)) ∧
    (∀ (cx : Cx) (cl : CL) (dst : Option Nat) (g : Option (Nat × Bool)) (x : AS) (a0 : Arg), zOp cx cl ⟨dst, .cap a0, g⟩ x = zval dst (st_cap a0 cx.G x)) ∧
    (∀ (cx : Cx) (cl : CL) (dst : Option Nat) (g : Option (Nat × Bool)) (x : AS) (a0 : Nat) (a1 : Nat) (a2 : Nat) (a3 : Arg) (a4 : Arg), zOp cx cl ⟨dst, .app a0 a1 a2 a3 a4, g⟩ x = zval dst (st_app a0 a1 a2 a3 a4 cx.G x)) ∧
    (∀ (cx : Cx) (cl : CL) (dst : Option Nat) (g : Option (Nat × Bool)) (x : AS) (a0 : Nat) (a1 : Arg) (a2 : Arg), zOp cx cl ⟨dst, .copy a0 a1 a2, g⟩ x = zval dst (st_copy a0 a1 a2 cx.G x)) ∧
    (∀ (cx : Cx) (cl : CL) (dst : Option Nat) (g : Option (Nat × Bool)) (x : AS) (a0 : IntKind) (a1 : Arg), zOp cx cl ⟨dst, .cvI a0 a1, g⟩ x = zval dst (st_cvI a0 a1 cx.G x)) ∧
    (∀ (cx : Cx) (cl : CL) (dst : Option Nat) (g : Option (Nat × Bool)) (x : AS) (a0 : Arg), zOp cx cl ⟨dst, .cvN a0, g⟩ x = zval dst (st_cvN a0 cx.G x)) ∧
    (∀ (cx : Cx) (cl : CL) (dst : Option Nat) (g : Option (Nat × Bool)) (x : AS) (a0 : Arg), zOp cx cl ⟨dst, .cvB a0, g⟩ x = zval dst (st_cvB a0 cx.G x)) ∧
    (∀ (cx : Cx) (cl : CL) (dst : Option Nat) (g : Option (Nat × Bool)) (x : AS) (a0 : Arg), zOp cx cl ⟨dst, .cvS a0, g⟩ x = zval dst (st_cvS a0 cx.G x)) ∧
    (∀ (cx : Cx) (cl : CL) (dst : Option Nat) (g : Option (Nat × Bool)) (x : AS) (a0 : Nat) (a1 : Arg), zOp cx cl ⟨dst, .mkif a0 a1, g⟩ x = zval dst (st_mkif a0 a1 cx.G x)) ∧
    (∀ (cx : Cx) (cl : CL) (dst : Option Nat) (g : Option (Nat × Bool)) (x : AS) (a0 : Fn) (a1 : List Arg) (a2 : List Arg), zOp cx cl ⟨dst, .mkfn a0 a1 a2, g⟩ x = zval dst (st_mkfn a0 a1 a2 cx.G x)) ∧
    (∀ (cx : Cx) (cl : CL) (dst : Option Nat) (g : Option (Nat × Bool)) (x : AS) (a0 : Arg), zOp cx cl ⟨dst, .nilc a0, g⟩ x = zval dst (st_nilc a0 cx.G x)) ∧
    (∀ (cx : Cx) (cl : CL) (dst : Option Nat) (g : Option (Nat × Bool)) (x : AS) (a0 : Arg), zOp cx cl ⟨dst, .rng a0, g⟩ x = zval dst (st_rng a0 cx.G x)) ∧
    (∀ (cx : Cx) (cl : CL) (dst : Option Nat) (g : Option (Nat × Bool)) (x : AS) (a0 : Arg), zOp cx cl ⟨dst, .next a0, g⟩ x = zval dst (st_next a0 cx.G x)) ∧
    (∀ (cx : Cx) (cl : CL) (dst : Option Nat) (g : Option (Nat × Bool)) (x : AS) (a0 : Bool) (a1 : Arg) (a2 : Arg), zOp cx cl ⟨dst, .mm a0 a1 a2, g⟩ x = zval dst (st_mm a0 a1 a2 cx.G x)) ∧
    (∀ (cx : Cx) (cl : CL) (dst : Option Nat) (g : Option (Nat × Bool)) (x : AS) , zOp cx cl ⟨dst, .mkm , g⟩ x = zval dst (st_mkm  cx.G x)) ∧
    (∀ (cx : Cx) (cl : CL) (dst : Option Nat) (g : Option (Nat × Bool)) (x : AS) (a0 : D) (a1 : Bool) (a2 : ET) (a3 : Arg) (a4 : Arg), zOp cx cl ⟨dst, .mlk a0 a1 a2 a3 a4, g⟩ x = zval dst (st_mlk a0 a1 a2 a3 a4 cx.G x)) ∧
    (∀ (cx : Cx) (cl : CL) (dst : Option Nat) (g : Option (Nat × Bool)) (x : AS) (a0 : ET) (a1 : Arg) (a2 : Arg) (a3 : Arg), zOp cx cl ⟨dst, .mup a0 a1 a2 a3, g⟩ x = zval dst (st_mup a0 a1 a2 a3 cx.G x)) ∧
    (∀ (cx : Cx) (cl : CL) (dst : Option Nat) (g : Option (Nat × Bool)) (x : AS) (a0 : D) (a1 : ET) (a2 : Arg) (a3 : Arg), zOp cx cl ⟨dst, .men a0 a1 a2 a3, g⟩ x = zval dst (st_men a0 a1 a2 a3 cx.G x)) ∧
    (∀ (cx : Cx) (cl : CL) (dst : Option Nat) (g : Option (Nat × Bool)) (x : AS) (a0 : Arg) (a1 : Arg) (a2 : Arg), zOp cx cl ⟨dst, .mst a0 a1 a2, g⟩ x = zval dst (st_mst a0 a1 a2 cx.G x)) ∧
    (∀ (cx : Cx) (cl : CL) (dst : Option Nat) (g : Option (Nat × Bool)) (x : AS) (a0 : Arg), zOp cx cl ⟨dst, .mln a0, g⟩ x = zval dst (st_mln a0 cx.G x)) ∧
    (∀ (cx : Cx) (cl : CL) (dst : Option Nat) (g : Option (Nat × Bool)) (x : AS) (a0 : Arg), zOp cx cl ⟨dst, .rgm a0, g⟩ x = zval dst (st_rgm a0 cx.G x)) ∧
    (∀ (cx : Cx) (cl : CL) (dst : Option Nat) (g : Option (Nat × Bool)) (x : AS) (a0 : Arg), zOp cx cl ⟨dst, .nxm a0, g⟩ x = zval dst (st_nxm a0 cx.G x)) ∧
    (∀ (cx : Cx) (cl : CL) (dst : Option Nat) (g : Option (Nat × Bool)) (x : AS) (a0 : Arg), zOp cx cl ⟨dst, .ent a0, g⟩ x = zval dst (st_ent a0 cx.G x)) ∧
    (∀ (cx : Cx) (cl : CL) (dst : Option Nat) (g : Option (Nat × Bool)) (x : AS) (a0 : Nat) (a1 : D) (a2 : Bool) (a3 : Arg), zOp cx cl ⟨dst, .tas a0 a1 a2 a3, g⟩ x = zval dst (st_tas a0 a1 a2 a3 cx.G x)) ∧
    (∀ (cx : Cx) (cl : CL) (dst : Option Nat) (g : Option (Nat × Bool)) (x : AS) (a0 : List Nat) (a1 : Bool) (a2 : Arg), zOp cx cl ⟨dst, .tai a0 a1 a2, g⟩ x = zval dst (st_tai a0 a1 a2 cx.G x)) ∧
    (∀ (cx : Cx) (cl : CL) (dst : Option Nat) (g : Option (Nat × Bool)) (x : AS) (a0 : XL) (a1 : List Arg), zOp cx cl ⟨dst, .xl a0 a1, g⟩ x = zval dst (st_xl a0 a1 cx.G x)) ∧
    (∀ (cx : Cx) (cl : CL) (dst : Option Nat) (g : Option (Nat × Bool)) (x : AS) (a0 : XA) (a1 : List Arg), zOp cx cl ⟨dst, .xa a0 a1, g⟩ x = zval dst (st_xa a0 a1 cx.G x)) := by
  refine ⟨?_, ?_, ?_, ?_, ?_, ?_, ?_, ?_, ?_, ?_, ?_, ?_, ?_, ?_, ?_, ?_, ?_, ?_, ?_, ?_, ?_, ?_, ?_, ?_, ?_, ?_, ?_, ?_, ?_, ?_, ?_, ?_, ?_, ?_, ?_, ?_, ?_, ?_, ?_, ?_, ?_, ?_, ?_, ?_, ?_, ?_, ?_, ?_⟩ <;> intros <;> rfl
def iaSD (sz : Nat) (d i : D) : Option D := match d with
  | .sl _ len cs => (idxD len i).map fun k => .iptr cs (k * sz)
  | .ms nm off z len _ => (idxD len i).bind fun k => bif Nat.beq z sz then some (.ptr nm (off + k * sz)) else none
  | .gs nm off z len => (idxD len i).bind fun k => bif Nat.beq z sz then some (.ptr nm (off + k * sz)) else none
  | _ => none
def slVD (sz : Nat) (d : D) (l h m : Option D) : Option D := match d with
    | .nils => do
      let m ← bndO 0 0 m
      let h ← bndO m 0 h
      let _ ← bndO h 0 l
      some .nils
    | .sl ex len cs => do
      let m' ← bndO len len m
      let h' ← bndO m' len h
      let l' ← bndO h' 0 l
      bif Nat.ble (h' * sz) cs.length then
        some (.sl ((m.isSome && Nat.beq m' h') || (m.isNone && ex && Nat.beq h' len)) (h' - l') ((cs.drop (l' * sz)).take ((h' - l') * sz)))
      else none
    | .ms nm off z len c => do
      let m ← bndO c c m
      let h ← bndO m len h
      let l ← bndO h 0 l
      bif Nat.beq z sz then some (.ms nm (bif Nat.beq m l then off else off + l * sz) z (h - l) (m - l)) else none
    | .gs nm off z len => match m with
      | none => do
        let h ← bndO len len h
        let l ← bndO h 0 l
        bif Nat.beq z sz then
          (bif Nat.beq l 0 then some (.gs nm off z h) else bif Nat.blt l h then some (.gs nm (off + l * sz) z (h - l)) else some (.sl false 0 []))
        else none
      | some m => do
        let m ← bndD len m
        let h ← bndO m len h
        let l ← bndO h 0 l
        bif Nat.beq z sz && Nat.blt 0 len then some (.ms nm (bif Nat.beq m l then off else off + l * sz) z (h - l) (m - l)) else none
    | _ => none
theorem st_iaS_eq (sz : Nat) (a i : Arg) (G : List (Nat × List D)) (x : AS) : st_iaS sz a i G x = (iaSD sz (a.ev G x.t) (i.ev G x.t)).map fun d => (d, x) := by
  unfold st_iaS iaSD
  cases a.ev G x.t <;> dsimp only <;> try rfl
  · rename_i ex len cs; cases idxD len (i.ev G x.t) <;> rfl
  · rename_i nm off z len c; cases idxD len (i.ev G x.t) <;> try rfl
    cases hb : Nat.beq z sz <;> rfl
  · rename_i nm off z len; cases idxD len (i.ev G x.t) <;> try rfl
    cases hb : Nat.beq z sz <;> rfl
theorem st_slV_eq (sz : Nat) (a : Arg) (l h m : Option Arg) (G : List (Nat × List D)) (x : AS) : st_slV sz a l h m G x = (slVD sz (a.ev G x.t) (l.map (·.ev G x.t)) (h.map (·.ev G x.t)) (m.map (·.ev G x.t))).map fun d => (d, x) := by
  unfold st_slV slVD
  cases a.ev G x.t <;> dsimp only <;> try rfl
  · cases bndO 0 0 (m.map (·.ev G x.t)) <;> try rfl
    rename_i m'; simp only [Option.bind_eq_bind, Option.bind_some]
    cases bndO m' 0 (h.map (·.ev G x.t)) <;> try rfl
    rename_i h'; simp only [Option.bind_some]
    cases bndO h' 0 (l.map (·.ev G x.t)) <;> rfl
  · rename_i ex len cs
    cases bndO len len (m.map (·.ev G x.t)) <;> try rfl
    rename_i m'; simp only [Option.bind_eq_bind, Option.bind_some]
    cases bndO m' len (h.map (·.ev G x.t)) <;> try rfl
    rename_i h'; simp only [Option.bind_some]
    cases bndO h' 0 (l.map (·.ev G x.t)) <;> try rfl
    rename_i l'; simp only [Option.bind_some, Option.isSome_map, Option.isNone_map]
    cases hb : Nat.ble (h' * sz) cs.length <;> rfl
  · rename_i nm off z len c
    cases bndO c c (m.map (·.ev G x.t)) <;> try rfl
    rename_i m'; simp only [Option.bind_eq_bind, Option.bind_some]
    cases bndO m' len (h.map (·.ev G x.t)) <;> try rfl
    rename_i h'; simp only [Option.bind_some]
    cases bndO h' 0 (l.map (·.ev G x.t)) <;> try rfl
    simp only [Option.bind_some]
    cases hb : Nat.beq z sz <;> rfl
  · rename_i nm off z len
    cases m with
    | none =>
      simp only [Option.map_none]
      cases bndO len len (h.map (·.ev G x.t)) <;> try rfl
      rename_i h'; simp only [Option.bind_eq_bind, Option.bind_some]
      cases bndO h' 0 (l.map (·.ev G x.t)) <;> try rfl
      rename_i l'; simp only [Option.bind_some]
      cases hb : Nat.beq z sz <;> cases hc : Nat.beq l' 0 <;> cases hd : Nat.blt l' h' <;> rfl
    | some m =>
      simp only [Option.map_some]
      cases bndD len (m.ev G x.t) <;> try rfl
      rename_i m'; simp only [Option.bind_eq_bind, Option.bind_some]
      cases bndO m' len (h.map (·.ev G x.t)) <;> try rfl
      rename_i h'; simp only [Option.bind_some]
      cases bndO h' 0 (l.map (·.ev G x.t)) <;> try rfl
      rename_i l'; simp only [Option.bind_some]
      cases hb : (Nat.beq z sz && Nat.blt 0 len) <;> rfl
theorem ex_st : (∀ (a : Arg) (G : List (Nat × List D)) (x : AS), st_mv a G x = (some (a.ev G x.t, x))) ∧
    (∀ (c : Arg) (a : Arg) (b : Arg) (G : List (Nat × List D)) (x : AS), st_pick c a b G x = (match c.ev G x.t with
    | .bool r => some (bif r then a.ev G x.t else b.ev G x.t, x)
    | _ => none)) ∧
    (∀ (ty : Nat) (a : Arg) (G : List (Nat × List D)) (x : AS), st_new ty a G x = (match (a.ev G x.t).cells? with
    | some cs => some (.ptr x.c 0, x.add (.fix ty cs))
    | none => none)) ∧
    (∀ (sz : Option Nat) (a : Arg) (G : List (Nat × List D)) (x : AS), st_ld sz a G x = (do let (cs, off) ← seen x.s (a.ev G x.t); let d ← takeAt cs off sz; some (d, x))) ∧
    (∀ (n : Nat) (a : Arg) (v : Arg) (G : List (Nat × List D)) (x : AS), st_st n a v G x = (match a.ev G x.t with
    | .ptr nm off => do
      let b ← sget x.s nm
      let vs ← (v.ev G x.t).cells?
      bif Nat.beq vs.length n then (stB b off vs).map fun b => (.un, { x with s := sset x.s nm b }) else none
    | _ => none)) ∧
    (∀ (o : Nat) (a : Arg) (G : List (Nat × List D)) (x : AS), st_fa o a G x = (match a.ev G x.t with
    | .ptr nm off => some (.ptr nm (off + o), x)
    | .iptr cs off => some (.iptr cs (off + o), x)
    | _ => none)) ∧
    (∀ (n : Nat) (sz : Nat) (a : Arg) (i : Arg) (G : List (Nat × List D)) (x : AS), st_iaA n sz a i G x = (do
    let k ← idxD n (i.ev G x.t)
    match a.ev G x.t with
    | .ptr nm off => some (.ptr nm (off + k * sz), x)
    | .iptr cs off => some (.iptr cs (off + k * sz), x)
    | _ => none)) ∧
    (∀ (sz : Nat) (a i : Arg) (G : List (Nat × List D)) (x : AS), st_iaS sz a i G x = (iaSD sz (a.ev G x.t) (i.ev G x.t)).map fun d => (d, x)) ∧
    (∀ (n : Nat) (sz : Nat) (ag : Bool) (a : Arg) (i : Arg) (G : List (Nat × List D)) (x : AS), st_ixA n sz ag a i G x = (match a.ev G x.t with
    | .agg cs => do let k ← idxD n (i.ev G x.t); let d ← takeAt cs (k * sz) (bif ag then some sz else none); some (d, x)
    | _ => none)) ∧
    (∀ (a : Arg) (i : Arg) (G : List (Nat × List D)) (x : AS), st_ixS a i G x = (match a.ev G x.t with
    | .str s => do let k ← idxD s.length (i.ev G x.t); let b ← s[k]?; some (.int .u8 b.toNat, x)
    | _ => none)) ∧
    (∀ (off : Nat) (sz : Option Nat) (a : Arg) (G : List (Nat × List D)) (x : AS), st_fld off sz a G x = (match a.ev G x.t with
    | .agg cs => do let d ← takeAt cs off sz; some (d, x)
    | _ => none)) ∧
    (∀ (i : Nat) (a : Arg) (G : List (Nat × List D)) (x : AS), st_ext i a G x = (match a.ev G x.t with
    | .tup cs => do let d ← cs[i]?; some (d, x)
    | _ => none)) ∧
    (∀ (op : BinOp) (a : Arg) (b : Arg) (G : List (Nat × List D)) (x : AS), st_bin op a b G x = ((binD op (a.ev G x.t) (b.ev G x.t)).map fun d => (d, x))) ∧
    (∀ (neg : Bool) (k : EK) (a : Arg) (b : Arg) (G : List (Nat × List D)) (x : AS), st_cmp neg k a b G x = ((cmpD k (a.ev G x.t) (b.ev G x.t)).map fun r => (.bool (bif neg then !r else r), x))) ∧
    (∀ (op : UnOp) (a : Arg) (G : List (Nat × List D)) (x : AS), st_un op a G x = ((unD op (a.ev G x.t)).map fun d => (d, x))) ∧
    (∀ (cells : List D) (ps : List (Nat × Nat × Arg)) (G : List (Nat × List D)) (x : AS), st_bld cells ps G x = ((place cells (parts G x.t ps)).map fun cs => (.agg cs, x))) ∧
    (∀ (len : Nat) (sz : Nat) (cells : List D) (ps : List (Nat × Nat × Arg)) (G : List (Nat × List D)) (x : AS), st_bsl len sz cells ps G x = (do
    let cs ← place cells (parts G x.t ps)
    some (.ms x.c 0 sz len len, x.add (.fix 0 cs)))) ∧
    (∀ (sz : Nat) (bytes : Nat) (zero : List D) (l : Arg) (c : Arg) (G : List (Nat × List D)) (x : AS), st_mks sz bytes zero l c G x = (match l.ev G x.t, c.ev G x.t with
    | .int _ l, .int _ c =>
      if 0 ≤ l ∧ l ≤ c ∧ bytes * c ≤ 1099511627776 ∧ c ≤ 4294967296 then
        some (.ms x.c 0 sz l.toNat c.toNat, x.add (.fix 0 (rep c.toNat zero)))
      else none
    | _, _ => none)) ∧
    (∀ (a : Arg) (l : Option Arg) (h : Option Arg) (G : List (Nat × List D)) (x : AS), st_slS a l h G x = (match a.ev G x.t with
    | .str s => do
      let h ← bndO s.length s.length (h.map (·.ev G x.t))
      let l ← bndO h 0 (l.map (·.ev G x.t))
      some (.str ((s.take h).drop l), x)
    | _ => none)) ∧
    (∀ (sz : Nat) (a : Arg) (l h m : Option Arg) (G : List (Nat × List D)) (x : AS), st_slV sz a l h m G x = (slVD sz (a.ev G x.t) (l.map (·.ev G x.t)) (h.map (·.ev G x.t)) (m.map (·.ev G x.t))).map fun d => (d, x)) ∧
    (∀ (n : Nat) (sz : Nat) (a : Arg) (l : Option Arg) (h : Option Arg) (m : Option Arg) (G : List (Nat × List D)) (x : AS), st_slA n sz a l h m G x = (do
    let m ← bndO n n (m.map (·.ev G x.t))
    let h ← bndO m n (h.map (·.ev G x.t))
    let l ← bndO h 0 (l.map (·.ev G x.t))
    match a.ev G x.t with
    | .ptr nm off => do
      let b ← sget x.s nm
      let cs ← blkCells b
      bif Nat.ble (off + m * sz) cs.length then some (.ms nm (bif Nat.beq m l then off else off + l * sz) sz (h - l) (m - l), x) else none
    | .iptr cs off => bif Nat.ble (off + h * sz) cs.length then some (.sl (Nat.beq m h) (h - l) ((cs.drop (off + l * sz)).take ((h - l) * sz)), x) else none
    | _ => none)) ∧
    (∀ (st : Bool) (a : Arg) (G : List (Nat × List D)) (x : AS), st_len st a G x = (match lenD st (a.ev G x.t) with
    | some n => some (.int .i64 n, x)
    | none => none)) ∧
    (∀ (a : Arg) (G : List (Nat × List D)) (x : AS), st_cap a G x = (match a.ev G x.t with
    | .nils => some (.int .i64 0, x)
    | .ms _ _ _ _ c => some (.int .i64 c, x)
    | .sl true n _ => some (.int .i64 n, x)
    | _ => none)) ∧
    (∀ (sz : Nat) (bytes : Nat) (ty : Nat) (a : Arg) (b : Arg) (G : List (Nat × List D)) (x : AS), st_app sz bytes ty a b G x = (appD x sz bytes ty (a.ev G x.t) (b.ev G x.t))) ∧
    (∀ (sz : Nat) (a : Arg) (b : Arg) (G : List (Nat × List D)) (x : AS), st_copy sz a b G x = (do
    let (ys, n) ← sliceCells x.s sz (b.ev G x.t)
    match a.ev G x.t with
    | .nils => some (.int .i64 0, x)
    | .ms nm off z len _ => do
      let b ← sget x.s nm
      bif Nat.beq z sz then (stB b off (ys.take (min n len * sz))).map fun b => (.int .i64 (min n len : Nat), { x with s := sset x.s nm b }) else none
    | .gs nm off z len => do
      let b ← sget x.s nm
      bif Nat.beq z sz then (stB b off (ys.take (min n len * sz))).map fun b => (.int .i64 (min n len : Nat), { x with s := sset x.s nm b }) else none
    | _ => none)) ∧
    (∀ (k : IntKind) (a : Arg) (G : List (Nat × List D)) (x : AS), st_cvI k a G x = (match a.ev G x.t with
    | .int _ n => some (.int k (wrapD k n), x)
    | _ => none)) ∧
    (∀ (a : Arg) (G : List (Nat × List D)) (x : AS), st_cvN a G x = (match a.ev G x.t with
    | .int _ n => some (.str (Utf8.encode n).data.toList, x)
    | .str s => some (.str s, x)
    | _ => none)) ∧
    (∀ (a : Arg) (G : List (Nat × List D)) (x : AS), st_cvB a G x = (match a.ev G x.t with
    | .str s => some (.gs x.c 0 1 s.length, x.add (.grow 0 (bytesOf s)))
    | _ => none)) ∧
    (∀ (a : Arg) (G : List (Nat × List D)) (x : AS), st_cvS a G x = (match a.ev G x.t with
    | .str _ => none
    | d => do
      let (cs, _) ← sliceCells x.s 1 d
      let bs ← cs.mapM byteOfD
      some (.str bs, x))) ∧
    (∀ (t : Nat) (a : Arg) (G : List (Nat × List D)) (x : AS), st_mkif t a G x = (some (.iface t (a.ev G x.t), x))) ∧
    (∀ (f : Fn) (fs : List Arg) (cs : List Arg) (G : List (Nat × List D)) (x : AS), st_mkfn f fs cs G x = (some (.fn f (fs.map (·.ev G x.t)) (cs.map (·.ev G x.t)), x))) ∧
    (∀ (a : Arg) (G : List (Nat × List D)) (x : AS), st_nilc a G x = (match a.ev G x.t with
    | .ptr nm off => some (.ptr nm off, x)
    | .iptr cs off => some (.iptr cs off, x)
    | .fn (.func f) a b => some (.fn (.func f) a b, x)
    | _ => none)) ∧
    (∀ (a : Arg) (G : List (Nat × List D)) (x : AS), st_rng a G x = (match a.ev G x.t with
    | .str s => some (.it x.c, x.add (.iter s 0))
    | _ => none)) ∧
    (∀ (a : Arg) (G : List (Nat × List D)) (x : AS), st_next a G x = (match a.ev G x.t with
    | .it nm => match sget x.s nm with
      | some (.iter s pos) =>
        bif Nat.blt pos s.length then
          some (.tup [.bool true, .int .i64 pos, .int .i32 (decodeD s pos).1], { x with s := sset x.s nm (.iter s (pos + (decodeD s pos).2)) })
        else some (.tup [.bool false], x)
      | _ => none
    | _ => none)) ∧
    (∀ (mx : Bool) (a : Arg) (b : Arg) (G : List (Nat × List D)) (x : AS), st_mm mx a b G x = (match a.ev G x.t, b.ev G x.t with
    | .int k n, .int _ m => some (.int k (bif mx then (if m > n then m else n) else (if m < n then m else n)), x)
    | _, _ => none)) ∧
    (∀ (G : List (Nat × List D)) (x : AS), st_mkm G x = (some (.mp x.c, x.add (.mp [] 0)))) ∧
    (∀ (z : D) (ok : Bool) (k : ET) (a : Arg) (i : Arg) (G : List (Nat × List D)) (x : AS), st_mlk z ok k a i G x = (match a.ev G x.t with
    | .nilm => match mfind k (i.ev G x.t) [] 0 with
      | some _ => some (bif ok then .tup (aggD z ++ [.bool false]) else z, x)
      | none => none
    | .mp nm => match sget x.s nm with
      | some (.mp es _) => match mfind k (i.ev G x.t) es 0 with
        | some (some (_, v)) => some (bif ok then .tup (aggD v ++ [.bool true]) else v, x)
        | some none => some (bif ok then .tup (aggD z ++ [.bool false]) else z, x)
        | none => none
      | _ => none
    | _ => none)) ∧
    (∀ (k : ET) (a : Arg) (i : Arg) (v : Arg) (G : List (Nat × List D)) (x : AS), st_mup k a i v G x = (match a.ev G x.t with
    | .mp nm => match sget x.s nm with
      | some (.mp es c) => match mfind k (i.ev G x.t) es 0 with
        | some (some (j, _)) => some (.un, { x with s := sset x.s nm (.mp (mset es j (v.ev G x.t)) c) })
        | some none => some (.un, { x with s := sset x.s nm (.mp (es ++ [(i.ev G x.t, v.ev G x.t, c)]) (c + 1)) })
        | none => none
      | _ => none
    | _ => none)) ∧
    (∀ (z : D) (k : ET) (a : Arg) (i : Arg) (G : List (Nat × List D)) (x : AS), st_men z k a i G x = (match a.ev G x.t with
    | .mp nm => match sget x.s nm with
      | some (.mp es c) => match mfind k (i.ev G x.t) es 0 with
        | some (some (j, v)) => some (.tup (aggD v ++ [.int .i64 (mborn es j)]), x)
        | some none => some (.tup (aggD z ++ [.int .i64 c]), { x with s := sset x.s nm (.mp (es ++ [(i.ev G x.t, z, c)]) (c + 1)) })
        | none => none
      | _ => none
    | _ => none)) ∧
    (∀ (a : Arg) (i : Arg) (v : Arg) (G : List (Nat × List D)) (x : AS), st_mst a i v G x = (match a.ev G x.t, i.ev G x.t with
    | .mp nm, .int _ n => match sget x.s nm with
      | some (.mp es c) => match mstamp es n with
        | some j => some (.un, { x with s := sset x.s nm (.mp (mset es j (v.ev G x.t)) c) })
        | none => none
      | _ => none
    | _, _ => none)) ∧
    (∀ (a : Arg) (G : List (Nat × List D)) (x : AS), st_mln a G x = (match a.ev G x.t with
    | .nilm => some (.int .i64 0, x)
    | .mp nm => match sget x.s nm with
      | some (.mp es _) => some (.int .i64 es.length, x)
      | _ => none
    | _ => none)) ∧
    (∀ (a : Arg) (G : List (Nat × List D)) (x : AS), st_rgm a G x = (match a.ev G x.t with
    | .nilm => some (.it x.c, x.add (.mit none 0 [] 0))
    | .mp nm => match sget x.s nm with
      | some (.mp _ c) => some (.it x.c, x.add (.mit (some nm) c [] c))
      | _ => none
    | _ => none)) ∧
    (∀ (a : Arg) (G : List (Nat × List D)) (x : AS), st_nxm a G x = (match a.ev G x.t with
    | .it nm => match sget x.s nm with
      | some (.mit none _ _ _) => some (.tup [.bool false], x)
      | some (.mit (some m) since seen last) => match sget x.s m with
        | some (.mp es c) => bif seen.isEmpty || es.isEmpty || es.any (fun e => Nat.blt e.2.2 last) then
            match es.filter (fun e => !seen.any (Nat.beq e.2.2)) with
            | [] => some (.tup [.bool false], x)
            | [(k, v, b)] => bif Nat.blt b since then some (.tup [.bool true, k, v], { x with s := sset x.s nm (.mit (some m) since (seen ++ [b]) c) }) else none
            | _ => none
          else none
        | _ => none
      | _ => none
    | _ => none)) ∧
    (∀ (a : Arg) (G : List (Nat × List D)) (x : AS), st_ent a G x = (match a.ev G x.t with
    | .it nm => match sget x.s nm with
      | some (.mit (some m) _ seen last) => match sget x.s m, seen.getLast? with
        | some (.mp es c), some b => bif Nat.beq c last then match es.filter (fun e => Nat.beq e.2.2 b) with
            | (k, v, _) :: _ => some (.tup [k, v], x)
            | [] => none
          else none
        | _, _ => none
      | _ => none
    | _ => none)) ∧
    (∀ (t : Nat) (z : D) (ok : Bool) (a : Arg) (G : List (Nat × List D)) (x : AS), st_tas t z ok a G x = (match a.ev G x.t with
    | .nilif => bif ok then some (.tup (aggD z ++ [.bool false]), x) else none
    | .iface u d => bif Nat.beq u t then some (bif ok then .tup (aggD d ++ [.bool true]) else d, x) else bif ok then some (.tup (aggD z ++ [.bool false]), x) else none
    | _ => none)) ∧
    (∀ (l : List Nat) (ok : Bool) (a : Arg) (G : List (Nat × List D)) (x : AS), st_tai l ok a G x = (match a.ev G x.t with
    | .nilif => bif ok then some (.tup [.nilif, .bool false], x) else none
    | .iface u d => bif l.any (Nat.beq u) then some (bif ok then .tup [.iface u d, .bool true] else .iface u d, x) else bif ok then some (.tup [.nilif, .bool false], x) else none
    | _ => none)) ∧
    (∀ (k : XL) (l : List Arg) (G : List (Nat × List D)) (x : AS), st_xl k l G x = ((xlook k (l.map (·.ev G x.t)) x.s).map fun d => (d, x))) ∧
    (∀ (k : XA) (l : List Arg) (G : List (Nat × List D)) (x : AS), st_xa k l G x = ((xact k (l.map (·.ev G x.t)) x.s x.c).map fun p => (p.1, ⟨x.t, p.2.1, p.2.2, x.d, x.r⟩))) := by
  refine ⟨?_, ?_, ?_, ?_, ?_, ?_, ?_, st_iaS_eq, ?_, ?_, ?_, ?_, ?_, ?_, ?_, ?_, ?_, ?_, ?_, st_slV_eq, ?_, ?_, ?_, ?_, ?_, ?_, ?_, ?_, ?_, ?_, ?_, ?_, ?_, ?_, ?_, ?_, ?_, ?_, ?_, ?_, ?_, ?_, ?_, ?_, ?_, ?_, ?_, ?_⟩ <;> intros <;> rfl
theorem ex_val : (∀ (dst : Option Nat) (d : D) (y : AS), zval dst (some (d, y)) = .ok .normal ⟨putT dst y.t d, y.s, y.c, y.d, y.r⟩) ∧ (∀ (dst : Option Nat), zval dst none = .no) ∧
    (∀ (n : Nat) (t : Tm) (d : D), putT (some n) t d = tput t n d) ∧ (∀ (t : Tm) (d : D), putT none t d = t) ∧
    (∀ (n : Nat) (G : List (Nat × List D)) (t : Tm), (Arg.t n).ev G t = tget t n) ∧ (∀ (d : D) (G : List (Nat × List D)) (t : Tm), (Arg.c d).ev G t = d) ∧ (∀ (n : Nat) (G : List (Nat × List D)) (t : Tm), (Arg.f n).ev G t = .fn (.func n) [] []) ∧
    (∀ (t : Tm) (n m : Nat) (d : D), tget (tput t n d) m = if m = n then d else tget t m) ∧
    (∀ (s : St) (n m : Nat) (b : Blk), sget (sset s n b) m = if m = n then some b else sget s m) ∧ (∀ (s : St) (n m : Nat) (b : Blk), sget (sadd s n b) m = if m = n then some b else sget s m) ∧
    (∀ (G : List (Nat × List D)) (t : Tm), evs [] G t = []) ∧ (∀ (G : List (Nat × List D)) (t : Tm) (a : Arg) (l : List Arg), evs (a :: l) G t = a.ev G t :: evs l G t) ∧
    (∀ (x : AS) (b : Blk), x.add b = ⟨x.t, sadd x.s x.c b, x.c + 1, x.d, x.r⟩) ∧
    (∀ (cx : Cx) (cl : CL) (dst : Option Nat) (g : Option (Nat × Bool)) (x : AS) (f : Nat) (l : List Arg), zOp cx cl ⟨dst, .call f l, g⟩ x = back dst x (cl (.fn f) (evs l cx.G x.t) x.s x.c)) ∧
    (∀ (dst : Option Nat) (x : AS) (d : D) (s : St) (c : Nat), back dst x (.ok (.ret d) s c) = .ok .normal ⟨putT dst x.t d, s, c, x.d, x.r⟩) ∧
    (∀ (dst : Option Nat) (x : AS) (ch : Ch) (s : St) (c : Nat), back dst x (.ok (.pan ch) s c) = .ok (.pan ch) ⟨x.t, s, c, x.d, x.r⟩) := by
  refine ⟨fun _ _ _ => rfl, fun _ => rfl, fun _ _ _ => rfl, fun _ _ => rfl, fun _ _ _ => rfl, fun _ _ _ => rfl, fun _ _ _ => rfl, fun t n m d => tget_tput t n d m, fun s n m b => sget_sset s n m b, fun s n m b => sget_sadd s n m b, fun _ _ => rfl, fun _ _ _ _ => rfl, fun _ _ => rfl, fun _ _ _ _ _ _ _ => rfl, fun _ _ _ _ _ => rfl, fun _ _ _ _ _ => rfl⟩
theorem ex_num : (∀ (k : IntKind) (x y : Int), binD .add (.int k x) (.int k y) = some (.int k (wrapD k (x + y)))) ∧ (∀ (k : IntKind) (x y : Int), binD .sub (.int k x) (.int k y) = some (.int k (wrapD k (x - y)))) ∧
    (∀ (k : IntKind) (x y : Int), binD .mul (.int k x) (.int k y) = some (.int k (wrapD k (x * y)))) ∧
    (∀ (k : IntKind) (x y : Int), binD .eql (.int k x) (.int k y) = some (.bool (decide (x = y)))) ∧ (∀ (k : IntKind) (x y : Int), binD .neq (.int k x) (.int k y) = some (.bool (decide (x ≠ y)))) ∧
    (∀ (k : IntKind) (x y : Int), binD .lss (.int k x) (.int k y) = some (.bool (decide (x < y)))) ∧ (∀ (k : IntKind) (x y : Int), binD .leq (.int k x) (.int k y) = some (.bool (decide (x ≤ y)))) ∧
    (∀ (k : IntKind) (x y : Int), binD .gtr (.int k x) (.int k y) = some (.bool (decide (y < x)))) ∧ (∀ (k : IntKind) (x y : Int), binD .geq (.int k x) (.int k y) = some (.bool (decide (y ≤ x)))) := by
  refine ⟨?_, ?_, ?_, ?_, ?_, ?_, ?_, ?_, ?_⟩ <;> intro k x y <;> simp [binD, intD]
  all_goals (cases k <;> rfl)
theorem ex_end : (∀ (df : Nat → List D → ZMode → St → Nat → DR) (A : AF) (t : Tm) (s : St) (c : Nat) (r : Option Nat), zbody df A (.ok .ret ⟨t, s, c, [], r⟩) = (match results A ⟨t, s, c, [], r⟩ with | some d => .ok (.ret d) s c | none => .no)) ∧
    (∀ (df : Nat → List D → ZMode → St → Nat → DR) (A : AF) (t : Tm) (s : St) (c : Nat) (r : Option Nat), zbody df A (.ok .normal ⟨t, s, c, [], r⟩) = (match results A ⟨t, s, c, [], r⟩ with | some d => .ok (.ret d) s c | none => .no)) ∧
    (∀ (np : Nat) (b : AC) (x : AS), results ⟨np, b, []⟩ x = some (.tup [])) ∧
    (∀ (np : Nat) (b : AC) (x : AS) (v : RV), results ⟨np, b, [v]⟩ x = v.get x) ∧
    (∀ (np : Nat) (b : AC) (x : AS) (v w : RV), results ⟨np, b, [v, w]⟩ x = (v.get x).bind fun a => (w.get x).map fun b => .tup [a, b]) ∧
    (∀ (np : Nat) (b : AC) (x : AS) (v w u : RV), results ⟨np, b, [v, w, u]⟩ x = (v.get x).bind fun a => (w.get x).bind fun b => (u.get x).map fun c => .tup [a, b, c]) ∧
    (∀ (np : Nat) (b : AC) (x : AS) (v w u p : RV), results ⟨np, b, [v, w, u, p]⟩ x = (v.get x).bind fun a => (w.get x).bind fun b => (u.get x).bind fun c => (p.get x).map fun d => .tup [a, b, c, d]) ∧
    (∀ (x : AS) (n : Nat), (RV.tmp n).get x = some (tget x.t n)) ∧
    (∀ (x : AS) (n : Nat) (sz : Option Nat), (RV.cell n sz).get x = (seen x.s (tget x.t n)).bind fun p => takeAt p.1 p.2 sz) := by
  refine ⟨fun _ _ _ _ _ _ => rfl, fun _ _ _ _ _ _ => rfl, fun _ _ _ => rfl, fun np b x v => ?_, fun np b x v w => ?_, fun np b x v w u => ?_, fun np b x v w u p => ?_, fun _ _ => rfl, fun _ _ _ => rfl⟩ <;>
    simp only [results, List.mapM_cons, List.mapM_nil, Option.bind_eq_bind, Option.pure_def]
  · cases v.get x <;> rfl
  · cases v.get x <;> try rfl
    cases w.get x <;> rfl
  · cases v.get x <;> try rfl
    cases w.get x <;> try rfl
    cases u.get x <;> rfl
  · cases v.get x <;> try rfl
    cases w.get x <;> try rfl
    cases u.get x <;> try rfl
    cases p.get x <;> rfl
/-! Guards; regions in an open order. -/
def zgd (v : D) (w : Bool) (p q : R) : R := match v with
  | .bool b => bif b == w then p else q
  | .tup [] => q
  | _ => .no
@[congr] theorem zgd_congr {v v' : D} (h : v = v') (w : Bool) (p q : R) : zgd v w p q = zgd v' w p q := by rw [h]
theorem zOps_g (cx : Cx) (cl : CL) (dst : Option Nat) (op : AOp) (g : Nat) (w : Bool) (r : List AOper) (x : AS) :
    zOps cx cl (⟨dst, op, some (g, w)⟩ :: r) x = zgd (tget x.t g) w (zbind (zOp cx cl ⟨dst, op, some (g, w)⟩ x) (zOps cx cl r)) (zOps cx cl r ⟨putT dst x.t (.tup []), x.s, x.c, x.d, x.r⟩) := by
  show (Option.rec .no (zops_want ⟨dst, op, some (g, w)⟩ (fun cx cl x => zOps cx cl r x) cx cl x) (wanted ⟨dst, op, some (g, w)⟩ x) : R) = _
  unfold wanted zgd
  simp only
  cases tget x.t g <;> try rfl
  · rename_i b
    cases b <;> cases w <;> rfl
  · rename_i cs
    cases cs <;> rfl
def zlk (dst : Option Nat) (x : AS) (r : Option (D × AS)) (chk : D → Bool) (K : AS → R) : R := match r with
  | some p => bif chk p.1 then K ⟨putT dst x.t p.1, x.s, x.c, x.d, x.r⟩ else .no
  | none => .no
@[congr] theorem zlk_congr (dst : Option Nat) (x : AS) {r r' : Option (D × AS)} (h : r = r') (chk : D → Bool) (K : AS → R) : zlk dst x r chk K = zlk dst x r' chk K := by rw [h]
def zall (dst : Option Nat) (x : AS) (nm : Nat) (r : Option ((Nat → D) × Blk)) (old : List St) (K : AS → R) : R := match r with
  | some p => bif old.all (fun s => (sget s nm).isNone) then K ⟨putT dst x.t (p.1 nm), sadd x.s nm p.2, x.c, x.d, x.r⟩ else .no
  | none => .no
@[congr] theorem zall_congr (dst : Option Nat) (x : AS) (nm : Nat) {r r' : Option ((Nat → D) × Blk)} (h : r = r') (old : List St) (K : AS → R) : zall dst x nm r old K = zall dst x nm r' old K := by rw [h]
def zac (r : R) (last : Bool) (K : AS → R) : R := match r with
  | .ok .normal y => K y
  | .ok (.pan ch) y => bif last then .ok (.pan ch) y else .no
  | _ => .no
@[congr] theorem zac_congr {r r' : R} (h : r = r') (last : Bool) (K : AS → R) : zac r last K = zac r' last K := by rw [h]
theorem zAny_w (cx : Cx) (cl : CL) (c0 : Nat) (i k : Nat) (dst : Option Nat) (op : AOp) (r : List (Nat × Nat × AOper)) (hist : List St) (x : AS) :
    zAny cx cl c0 ((i, k, ⟨dst, op, none⟩) :: r) hist x = (match op.kd with
      | 0 => zlk dst x (step cx.G op x) (fun d => (hist.take k).all (sameStep cx.G op x d)) (zAny cx cl c0 r hist)
      | 1 => zall dst x (c0 + i) (allocOf cx.G op x.t) (x.s :: hist.take k) (zAny cx cl c0 r hist)
      | 2 => zac (zOp cx cl ⟨dst, op, none⟩ x) (r.all fun f => Nat.beq f.2.1 0) (zAny cx cl c0 r (x.s :: hist))
      | _ => .no) := by
  show zany_cons cx cl c0 (i, k, ⟨dst, op, none⟩) r (fun h x => zAny cx cl c0 r h x) hist x = _
  unfold zany_cons
  have hw : wanted (i, k, (⟨dst, op, none⟩ : AOper)).2.2 x = some true := rfl
  rw [hw]
  show (match op.kd with | 0 => _ | 1 => _ | 2 => _ | _ => _ : R) = _
  generalize op.kd = q
  match q with
  | 0 => cases hs : step cx.G op x <;> simp only [zlk, hs] <;> rfl
  | 1 => cases hs : allocOf cx.G op x.t <;> simp only [zall, hs] <;> rfl
  | 2 =>
    simp only [zac]
    cases hs : zOp cx cl ⟨dst, op, none⟩ x with
    | no => rfl
    | ok o y => cases o <;> rfl
  | n + 3 => rfl
theorem zAny_g (cx : Cx) (cl : CL) (c0 : Nat) (i k : Nat) (dst : Option Nat) (op : AOp) (g : Nat) (w : Bool) (r : List (Nat × Nat × AOper)) (hist : List St) (x : AS) :
    zAny cx cl c0 ((i, k, ⟨dst, op, some (g, w)⟩) :: r) hist x = zgd (tget x.t g) w (zAny cx cl c0 ((i, k, ⟨dst, op, none⟩) :: r) hist x)
      (zAny cx cl c0 r (bif Nat.beq op.kd 2 then x.s :: hist else hist) ⟨putT dst x.t (.tup []), x.s, x.c, x.d, x.r⟩) := by
  have h1 : ∀ b : Bool, zAny cx cl c0 ((i, k, ⟨dst, op, none⟩) :: r) hist x = zany_cons cx cl c0 (i, k, ⟨dst, op, none⟩) r (fun h x => zAny cx cl c0 r h x) hist x := fun _ => rfl
  show zany_cons cx cl c0 (i, k, ⟨dst, op, some (g, w)⟩) r (fun h x => zAny cx cl c0 r h x) hist x = _
  rw [h1 true]
  unfold zany_cons zgd
  simp only [wanted]
  cases tget x.t g <;> try rfl
  · rename_i b
    cases b <;> cases w <;> rfl
  · rename_i cs
    cases cs <;> rfl
theorem ex_any : (∀ (cx : Cx) (cl : CL) (k : Nat) (x : AS) (ord : List (Nat × Nat)) (ops : List AOper), zC (.reg (some ord) ops) cx cl k x = zAny cx cl x.c (zipO ord ops) [] ⟨killT (zipO ord ops) x.t, x.s, x.c + ops.length, x.d, x.r⟩) ∧
    (∀ (cx : Cx) (cl : CL) (c0 : Nat) (hist : List St) (x : AS), zAny cx cl c0 [] hist x = .ok .normal x) ∧
    (∀ (dst : Option Nat) (x y : AS) (d : D) (chk : D → Bool) (K : AS → R), zlk dst x (some (d, y)) chk K = bif chk d then K ⟨putT dst x.t d, x.s, x.c, x.d, x.r⟩ else .no) ∧
    (∀ (dst : Option Nat) (x : AS) (nm : Nat) (p : (Nat → D) × Blk) (old : List St) (K : AS → R), zall dst x nm (some p) old K = bif old.all (fun s => (sget s nm).isNone) then K ⟨putT dst x.t (p.1 nm), sadd x.s nm p.2, x.c, x.d, x.r⟩ else .no) ∧
    (∀ (y : AS) (l : Bool) (K : AS → R), zac (.ok .normal y) l K = K y) ∧ (∀ (y : AS) (ch : Ch) (l : Bool) (K : AS → R), zac (.ok (.pan ch) y) l K = bif l then .ok (.pan ch) y else .no) ∧
    (∀ (b : Bool) (p q : R), zgd (.bool b) true p q = zcond (.bool b) p q) ∧ (∀ (b : Bool) (p q : R), zgd (.bool b) false p q = zcond (.bool b) q p) ∧ (∀ (w : Bool) (p q : R), zgd (.tup []) w p q = q) := by
  refine ⟨fun _ _ _ _ _ _ => rfl, fun _ _ _ _ _ => rfl, fun _ _ _ _ _ _ => rfl, fun _ _ _ _ _ _ => rfl, fun _ _ _ => rfl, fun _ _ _ _ => rfl, fun b _ _ => by cases b <;> rfl, fun b _ _ => by cases b <;> rfl, fun _ _ _ => rfl⟩
end
end Zv
namespace Zv
open Go
/-! Slices that came in. -/
def IsSl (w : Nat) (rows : List (List D)) (d : D) : Prop := (∀ r ∈ rows, r.length = w) ∧ ((d = .nils ∧ rows = []) ∨ ∃ ex, d = .sl ex rows.length rows.flatten)
theorem IsSl.lenD {w : Nat} {rows : List (List D)} {d : D} (h : IsSl w rows d) : lenD false d = some rows.length := by
  rcases h.2 with ⟨rfl, rfl⟩ | ⟨ex, rfl⟩ <;> rfl
theorem flatten_at {w : Nat} : ∀ {rows : List (List D)} {i : Nat} {r : List D}, (∀ r ∈ rows, r.length = w) → rows[i]? = some r → (rows.flatten.drop (i * w)).take w = r ∧ i * w + w ≤ rows.flatten.length
  | [], i, r, h, hr => by simp at hr
  | x :: rows, 0, r, h, hr => by
    simp only [List.getElem?_cons_zero, Option.some.injEq] at hr
    subst hr
    have := h x (by simp)
    rw [List.flatten_cons, Nat.zero_mul, List.drop_zero, ← this]
    simp
  | x :: rows, i + 1, r, h, hr => by
    have hx := h x (by simp)
    obtain ⟨h1, h2⟩ := flatten_at (w := w) (i := i) (fun r hr => h r (by simp [hr])) (show rows[i]? = some r by simpa using hr)
    refine ⟨?_, ?_⟩
    · rw [List.flatten_cons, Nat.add_mul, Nat.one_mul, Nat.add_comm, ← List.drop_drop]
      rw [show (x ++ rows.flatten).drop w = rows.flatten by rw [← hx]; simp]
      exact h1
    · rw [List.flatten_cons, List.length_append, hx, Nat.add_mul, Nat.one_mul]; omega
theorem idxD_nat {n i : Nat} {k : IntKind} (h : i < n) : idxD n (.int k (i : Int)) = some i := by
  simp only [idxD]
  rw [if_pos ⟨by omega, by omega⟩, Int.toNat_natCast]
theorem IsSl.ia {w : Nat} {rows : List (List D)} {d : D} (h : IsSl w rows d) {i : Nat} (hi : i < rows.length) {k : IntKind} : iaSD w d (.int k (i : Int)) = some (.iptr rows.flatten (i * w)) := by
  rcases h.2 with ⟨rfl, rfl⟩ | ⟨ex, rfl⟩
  · simp at hi
  · simp only [iaSD, idxD_nat hi, Option.map_some]
theorem IsSl.row {w : Nat} {rows : List (List D)} {d : D} (h : IsSl w rows d) {i : Nat} (hi : i < rows.length) : takeAt rows.flatten (i * w) (some w) = some (.agg rows[i]) := by
  obtain ⟨h1, h2⟩ := flatten_at h.1 (List.getElem?_eq_getElem hi)
  simp only [takeAt, Nat.ble_eq_true_of_le h2, cond_true, h1]
theorem IsSl.cell {w : Nat} {rows : List (List D)} {d : D} (h : IsSl w rows d) {i : Nat} (hi : i < rows.length) {o : Nat} (ho : o < w) : rows.flatten[i * w + o]? = rows[i][o]? := by
  obtain ⟨h1, h2⟩ := flatten_at h.1 (List.getElem?_eq_getElem hi)
  rw [← h1, List.getElem?_take, if_pos ho, List.getElem?_drop]
theorem IsSl.cell0 {w : Nat} {rows : List (List D)} {d : D} (h : IsSl w rows d) {i : Nat} (hi : i < rows.length) (ho : 0 < w) : rows.flatten[i * w]? = rows[i][0]? := h.cell hi ho
theorem IsSl.ble {w : Nat} {rows : List (List D)} {d : D} (h : IsSl w rows d) {i : Nat} (hi : i < rows.length) : i * w + w ≤ rows.flatten.length := (flatten_at h.1 (List.getElem?_eq_getElem hi)).2
theorem IsSl.nag {w : Nat} {rows : List (List D)} {d : D} (h : IsSl w rows d) : isAg d = false := by
  rcases h.2 with ⟨rfl, rfl⟩ | ⟨ex, rfl⟩ <;> rfl
theorem IsSl.fz {w : Nat} {rows : List (List D)} {d : D} (h : IsSl w rows d) (n : Nat) (s : St) : frz false (n + 1) s d = some d := by
  rcases h.2 with ⟨rfl, rfl⟩ | ⟨ex, rfl⟩ <;> rfl
theorem IsSl.pure {w : Nat} {rows : List (List D)} {d : D} (h : IsSl w rows d) : d.pure = true := by
  rcases h.2 with ⟨rfl, rfl⟩ | ⟨ex, rfl⟩ <;> rfl
theorem IsSl.cellsq {w : Nat} {rows : List (List D)} {d : D} (h : IsSl w rows d) : d.cells? = some [d] := by
  rcases h.2 with ⟨rfl, rfl⟩ | ⟨ex, rfl⟩ <;> rfl
theorem flatten_length {w : Nat} : ∀ {rows : List (List D)}, (∀ r ∈ rows, r.length = w) → rows.flatten.length = rows.length * w
  | [], h => by simp
  | x :: rows, h => by
    rw [List.flatten_cons, List.length_append, h x (by simp), flatten_length (fun r hr => h r (by simp [hr])), List.length_cons, Nat.add_mul, Nat.one_mul, Nat.add_comm]
theorem take_flatten {w : Nat} : ∀ {rows : List (List D)} {i : Nat}, (∀ r ∈ rows, r.length = w) → i ≤ rows.length → rows.flatten.take (i * w) = (rows.take i).flatten
  | rows, 0, h, hi => by simp
  | [], i + 1, h, hi => by simp at hi
  | x :: rows, i + 1, h, hi => by
    have hx := h x (by simp)
    rw [List.flatten_cons, List.take_succ_cons, List.flatten_cons, Nat.add_mul, Nat.one_mul, Nat.add_comm, ← hx, List.take_length_add_append, hx,
      take_flatten (fun r hr => h r (by simp [hr])) (by simpa using hi)]
theorem drop_flatten {w : Nat} : ∀ {rows : List (List D)} {i : Nat}, (∀ r ∈ rows, r.length = w) → i ≤ rows.length → rows.flatten.drop (i * w) = (rows.drop i).flatten
  | rows, 0, h, hi => by simp
  | [], i + 1, h, hi => by simp at hi
  | x :: rows, i + 1, h, hi => by
    have hx := h x (by simp)
    rw [List.flatten_cons, List.drop_succ_cons, Nat.add_mul, Nat.one_mul, Nat.add_comm, ← hx, ← List.drop_drop, List.drop_left, hx,
      drop_flatten (fun r hr => h r (by simp [hr])) (by simpa using hi)]
theorem bndD_nat {n i : Nat} {k : IntKind} (h : i ≤ n) : bndD n (.int k (i : Int)) = some i := by
  simp only [bndD]
  rw [if_pos ⟨by omega, by omega⟩, Int.toNat_natCast]
theorem IsSl.part {w : Nat} {rows : List (List D)} {d : D} (h : IsSl w rows d) {i j : Nat} (hij : i ≤ j) (hj : j ≤ rows.length) {k k' : IntKind} :
    ∃ d', slVD w d (some (.int k (i : Int))) (some (.int k' (j : Int))) none = some d' ∧ IsSl w ((rows.take j).drop i) d' := by
  rcases h.2 with ⟨rfl, rfl⟩ | ⟨ex, rfl⟩
  · simp only [List.length_nil, Nat.le_zero] at hj
    subst hj
    have : i = 0 := by omega
    subst this
    exact ⟨.nils, by simp only [slVD, bndO, Option.bind_eq_bind, Option.bind_some, bndD_nat (Nat.le_refl 0)], by simp [IsSl]⟩
  · refine ⟨_, ?_, fun r hr => h.1 r (List.mem_of_mem_take (List.mem_of_mem_drop hr)), .inr ⟨ex && Nat.beq j rows.length, rfl⟩⟩
    have h1 : Nat.ble (j * w) rows.flatten.length = true := by
      rw [flatten_length h.1]; exact Nat.ble_eq_true_of_le (Nat.mul_le_mul_right w hj)
    simp only [slVD, bndO, bndD_nat hij, bndD_nat hj, Option.bind_eq_bind, Option.bind_some, Option.isSome_none, Bool.false_and, Option.isNone_none, Bool.true_and, Bool.false_or, h1, cond_true, List.length_drop, List.length_take, Nat.min_eq_left hj]
    have e : ((rows.take j).drop i).flatten = (rows.flatten.drop (i * w)).take ((j - i) * w) := by
      rw [← drop_flatten (w := w) (fun r hr => h.1 r (List.mem_of_mem_take hr)) (by rw [List.length_take]; omega), ← take_flatten h.1 hj, List.drop_take, Nat.sub_mul]
    rw [e]
theorem slVD_lo {w : Nat} {d : D} {n : Nat} (h : lenD false d = some n) (hd : d.pure = true) (l : Option D) : slVD w d l none none = slVD w d l (some (.int .i64 (n : Int))) none := by
  cases d <;> simp only [lenD, Option.some.injEq, reduceCtorEq] at h <;> simp only [D.pure, reduceCtorEq, Bool.false_eq_true] at hd
  · subst h; simp only [slVD, bndO, Option.bind_eq_bind, Option.bind_some, bndD_nat (Nat.le_refl 0)]
  · subst h; simp only [slVD, bndO, Option.bind_eq_bind, Option.bind_some, bndD_nat (Nat.le_refl _)]
theorem slVD_hi {w : Nat} {d : D} (hd : d.pure = true) (h : Option D) : slVD w d none h none = slVD w d (some (.int .i64 (0 : Nat))) h none := by
  cases d <;> simp only [D.pure, reduceCtorEq, Bool.false_eq_true] at hd <;> simp only [slVD, bndO, bndD_nat (Nat.zero_le _)]
theorem IsSl.head {w : Nat} {rows : List (List D)} {d : D} (h : IsSl w rows d) {j : Nat} (hj : j ≤ rows.length) {k : IntKind} :
    ∃ d', slVD w d none (some (.int k (j : Int))) none = some d' ∧ IsSl w (rows.take j) d' := by
  obtain ⟨d', h1, h2⟩ := h.part (Nat.zero_le j) hj (k := .i64) (k' := k)
  exact ⟨d', by rw [slVD_hi h.pure]; exact h1, h2⟩
theorem IsSl.tail {w : Nat} {rows : List (List D)} {d : D} (h : IsSl w rows d) {i : Nat} (hi : i ≤ rows.length) {k : IntKind} :
    ∃ d', slVD w d (some (.int k (i : Int))) none none = some d' ∧ IsSl w (rows.drop i) d' := by
  obtain ⟨d', h1, h2⟩ := h.part hi (Nat.le_refl _) (k := k) (k' := .i64)
  exact ⟨d', by rw [slVD_lo h.lenD h.pure]; exact h1, by rwa [List.take_length] at h2⟩
/-! Slices whose rows stand for typed values. -/
def Sl {α : Type} (w : Nat) (e : α → List D) (l : List α) (d : D) : Prop := IsSl w (l.map e) d
section
variable {α : Type} {w : Nat} {e : α → List D} {l : List α} {d : D} (h : Sl w e l d)
include h
theorem Sl.len : lenD false d = some l.length := by have := IsSl.lenD h; rwa [List.length_map] at this
theorem Sl.ia {i : Nat} (hi : i < l.length) {k : IntKind} : iaSD w d (.int k (i : Int)) = some (.iptr (l.map e).flatten (i * w)) := IsSl.ia h (by simpa using hi)
theorem Sl.cell {i : Nat} (hi : i < l.length) {o : Nat} (ho : o < w) : (l.map e).flatten[i * w + o]? = (e l[i])[o]? := by
  have := IsSl.cell h (i := i) (by simpa using hi) ho
  rwa [List.getElem_map] at this
theorem Sl.cell0 {i : Nat} (hi : i < l.length) (ho : 0 < w) : (l.map e).flatten[i * w]? = (e l[i])[0]? := Sl.cell h hi ho
theorem Sl.row {i : Nat} (hi : i < l.length) : takeAt (l.map e).flatten (i * w) (some w) = some (.agg (e l[i])) := by
  have := IsSl.row h (i := i) (by simpa using hi)
  rwa [List.getElem_map] at this
theorem Sl.fz (n : Nat) (s : St) : frz false (n + 1) s d = some d := IsSl.fz h n s
theorem Sl.pure : d.pure = true := IsSl.pure h
theorem Sl.nag : isAg d = false := IsSl.nag h
theorem Sl.cellsq : d.cells? = some [d] := IsSl.cellsq h
theorem Sl.head {j : Nat} (hj : j ≤ l.length) {k : IntKind} : ∃ d', slVD w d none (some (.int k (j : Int))) none = some d' ∧ Sl w e (l.take j) d' := by
  obtain ⟨d', h1, h2⟩ := IsSl.head h (j := j) (by simpa using hj) (k := k)
  exact ⟨d', h1, by rwa [← List.map_take] at h2⟩
theorem Sl.tail {i : Nat} (hi : i ≤ l.length) {k : IntKind} : ∃ d', slVD w d (some (.int k (i : Int))) none none = some d' ∧ Sl w e (l.drop i) d' := by
  obtain ⟨d', h1, h2⟩ := IsSl.tail h (i := i) (by simpa using hi) (k := k)
  exact ⟨d', h1, by rwa [← List.map_drop] at h2⟩
theorem Sl.part {i j : Nat} (hij : i ≤ j) (hj : j ≤ l.length) {k k' : IntKind} : ∃ d', slVD w d (some (.int k (i : Int))) (some (.int k' (j : Int))) none = some d' ∧ Sl w e ((l.take j).drop i) d' := by
  obtain ⟨d', h1, h2⟩ := IsSl.part h hij (by simpa using hj) (k := k) (k' := k')
  exact ⟨d', h1, by rwa [← List.map_take, ← List.map_drop] at h2⟩
end
theorem Sl.ia1 {α : Type} {e : α → List D} {l : List α} {d : D} (h : Sl 1 e l d) {i : Nat} (hi : i < l.length) {k : IntKind} : iaSD 1 d (.int k (i : Int)) = some (.iptr (l.map e).flatten i) := by rw [h.ia hi, Nat.mul_one]
theorem Sl.at1 {α : Type} {e : α → List D} {l : List α} {d : D} (h : Sl 1 e l d) {i : Nat} (hi : i < l.length) : (l.map e).flatten[i]? = (e l[i])[0]? := by have := h.cell0 hi Nat.one_pos; rwa [Nat.mul_one] at this
theorem start_eq (args : List D) (s : St) (c : Nat) : start args s c = ⟨argTm 0 args tm0, s, c, [], none⟩ := rfl
/-! Loops. -/
@[elab_as_elim] theorem zloop_any {Q : R → Prop} (rl : R) {k : Nat} {f : AS → R} {x : AS} (hl : zloop k f x = rl) (n : Nat) (hk : n < k) (I : Nat → AS → Prop) (h0 : I 0 x)
    (hs : ∀ i x, i ≤ n → I i x → (∃ y, f x = .ok .normal y ∧ i < n ∧ I (i + 1) y) ∨ (Q (f x) ∧ ∀ y, f x ≠ .ok .normal y)) : Q rl := by
  have main : ∀ m i k x, i + m = n → m < k → I i x → Q (zloop k f x) := by
    intro m
    induction m with
    | zero =>
      intro i k x hi hk hI
      obtain ⟨k, rfl⟩ : ∃ j, k = j + 1 := ⟨k - 1, by omega⟩
      show Q (zbind (f x) (zloop k f))
      rcases hs i x (by omega) hI with ⟨y, hy, hlt, _⟩ | ⟨hq, hn⟩
      · omega
      · cases hf : f x with
        | no => rw [hf] at hq; exact hq
        | ok o y => cases o with
          | normal => exact absurd hf (hn y)
          | _ => rw [hf] at hq; exact hq
    | succ m ih =>
      intro i k x hi hk hI
      obtain ⟨k, rfl⟩ : ∃ j, k = j + 1 := ⟨k - 1, by omega⟩
      show Q (zbind (f x) (zloop k f))
      rcases hs i x (by omega) hI with ⟨y, hy, hlt, hI'⟩ | ⟨hq, hn⟩
      · rw [hy]
        exact ih (i + 1) k y (by omega) (by omega) hI'
      · cases hf : f x with
        | no => rw [hf] at hq; exact hq
        | ok o y => cases o with
          | normal => exact absurd hf (hn y)
          | _ => rw [hf] at hq; exact hq
  subst hl
  exact main n 0 k x (by omega) hk h0
def Go1 (Q : R → Prop) (N : AS → Prop) (r : R) : Prop := match r with
  | .ok .normal z => N z
  | .ok o z => Q (.ok o z)
  | .no => False
theorem go1 {Q : R → Prop} {N : AS → Prop} : (∀ z, Go1 Q N (.ok .normal z) = N z) ∧ (∀ i z, Go1 Q N (.ok (.exit i) z) = Q (.ok (.exit i) z)) ∧ (∀ z, Go1 Q N (.ok .ret z) = Q (.ok .ret z)) ∧ (∀ c z, Go1 Q N (.ok (.pan c) z) = Q (.ok (.pan c) z)) :=
  ⟨fun _ => rfl, fun _ _ => rfl, fun _ => rfl, fun _ _ => rfl⟩
@[elab_as_elim] theorem zwhile {Q : R → Prop} (rl : R) {k : Nat} {f : AS → R} {x : AS} (hz : zloop k f x = rl) (n : Nat) (hk : n < k) (I : Nat → AS → Prop) (h0 : I 0 x)
    (hs : ∀ i x, i ≤ n → I i x → Go1 Q (fun z => i < n ∧ I (i + 1) z) (f x)) : Q rl :=
  zloop_any rl hz n hk I h0 fun i x hi hI => by
    have h := hs i x hi hI
    cases hf : f x with
    | no => rw [hf] at h; exact h.elim
    | ok o y =>
      rw [hf] at h
      cases o with
      | normal => exact .inl ⟨y, rfl, h⟩
      | exit i => exact .inr ⟨h, fun y h => by cases h⟩
      | ret => exact .inr ⟨h, fun y h => by cases h⟩
      | pan c => exact .inr ⟨h, fun y h => by cases h⟩
theorem wrapD_i64 {n : Int} (h : -9223372036854775808 ≤ n) (h' : n < 9223372036854775808) : wrapD .i64 n = n := wrapD_fits (by simp only [loK]; omega) (by simp only [hiK]; omega)
theorem inc_i64 {a : Nat} (h : a < 9223372036854775807) : wrapD .i64 ((a : Int) + 1) = ((a + 1 : Nat) : Int) := by rw [wrapD_i64 (by omega) (by omega)]; rfl
@[elab_as_elim] theorem zrange {Q : R → Prop} (rl : R) {cx : Cx} {cl : CL} {k ti tn tc tj id id' : Nat} {body : AC} {t0 : Tm} {s0 : St} {c0 : Nat} {d : List (D × List D)} {r : Option Nat}
    (hz : zloop k (zC (.seq (.reg none [⟨some tc, .bin .lss (.t ti) (.t tn), none⟩]) (.seq (.cond (.t tc) .skip (.exit id)) (.seq (.block id' body) (.reg none [⟨some tj, .bin .add (.t ti) (.c (.int .i64 1)), none⟩, ⟨some ti, .mv (.t tj), none⟩])))) cx cl k)
      ⟨t0, s0, c0, d, r⟩ = rl)
    (n : Nat) (hk : n < k) (h63 : n < 9223372036854775807) (I : Nat → Tm → St → Nat → Prop) (hne : ti ≠ tc ∧ tn ≠ tc)
    (hi : tget t0 ti = .int .i64 0) (hn : tget t0 tn = .int .i64 n) (h0 : I 0 t0 s0 c0)
    (hs : ∀ i t s c, i < n → I i t s c → tget t ti = .int .i64 i → tget t tn = .int .i64 n →
      Go1 Q (fun z => z.d = d ∧ z.r = r ∧ tget z.t ti = .int .i64 i ∧ (tn = ti ∨ tn = tj ∨ tget z.t tn = .int .i64 n) ∧ tn ≠ ti ∧ tn ≠ tj ∧ I (i + 1) (tput (tput z.t tj (.int .i64 (i + 1 : Nat))) ti (.int .i64 (i + 1 : Nat))) z.s z.c)
        (zblkR id' (zC body cx cl k ⟨tput t tc (.bool true), s, c, d, r⟩)))
    (he : ∀ t s c, I n t s c → tget t ti = .int .i64 n → tget t tn = .int .i64 n → Q (.ok (.exit id) ⟨tput t tc (.bool false), s, c, d, r⟩)) : Q rl := by
  refine zloop_any rl hz n hk (fun i x => ∃ t s c, x = ⟨t, s, c, d, r⟩ ∧ tget t ti = .int .i64 i ∧ tget t tn = .int .i64 n ∧ I i t s c) ⟨t0, s0, c0, rfl, hi, hn, h0⟩ ?_
  rintro i x hi' ⟨t, s, c, rfl, h1, h2, h3⟩
  simp only [ex_code, ex_op, ex_st, ex_val, ex_num, h1, h2, ↓reduceIte, Option.map_some, Int.ofNat_lt]
  by_cases hlt : i < n
  · have hg := hs i t s c hlt h3 h1 h2
    simp only [hlt, decide_true, ex_code]
    cases hb : zblkR id' (zC body cx cl k ⟨tput t tc (.bool true), s, c, d, r⟩) with
    | no => rw [hb] at hg; exact hg.elim
    | ok o z =>
      rw [hb] at hg
      cases o with
      | normal =>
        obtain ⟨g1, g2, g3, g4, g5, g6, g7⟩ := hg
        left
        obtain ⟨zt, zs, zc, zd, zr⟩ := z
        simp only at g1 g2 g3 g4 g7
        subst g1 g2
        have g4' : tget zt tn = .int .i64 n := by
          rcases g4 with e | e | e
          · exact absurd e g5
          · exact absurd e g6
          · exact e
        simp only [ex_code, ex_op, ex_st, ex_val, ex_num, g3, Option.map_some, inc_i64 (show i < 9223372036854775807 by omega), ↓reduceIte]
        refine ⟨_, rfl, trivial, _, _, _, rfl, ?_, ?_, g7⟩
        · rw [tget_tput, if_pos rfl]
        · rw [tget_tput, if_neg g5, tget_tput, if_neg g6]; exact g4'
      | exit j => right; exact ⟨hg, fun y h => by simp only [ex_code] at h; cases h⟩
      | ret => right; exact ⟨hg, fun y h => by simp only [ex_code] at h; cases h⟩
      | pan ch => right; exact ⟨hg, fun y h => by simp only [ex_code] at h; cases h⟩
  · have e : i = n := by omega
    subst e
    right
    simp only [hlt, decide_false, ex_code]
    exact ⟨he t s c h3 h1 h2, fun y h => by cases h⟩
theorem ex_dat : (∀ (cs : List D) (off : Nat), takeAt cs off none = cs[off]?) ∧ (∀ (s : St) (cs : List D) (off : Nat), seen s (.iptr cs off) = some (cs, off)) ∧
    (∀ (s : St) (nm off : Nat), seen s (.ptr nm off) = (sget s nm).bind fun b => (blkCells b).map fun cs => (cs, off)) ∧ (∀ (ty : Nat) (cs : List D), blkCells (.fix ty cs) = some cs) ∧ (∀ (ty : Nat) (cs : List D), blkCells (.grow ty cs) = some cs) ∧
    (∀ (k : IntKind) (i : Int), (D.int k i).cells? = some [.int k i]) ∧ (∀ (b : Bool), (D.bool b).cells? = some [.bool b]) ∧ (∀ (b : List UInt8), (D.str b).cells? = some [.str b]) ∧ (∀ (cs : List D), (D.agg cs).cells? = some cs) ∧ (D.nils.cells? = some [.nils]) ∧
    (∀ (a b c d e : Nat), (D.ms a b c d e).cells? = some [.ms a b c d e]) ∧ (∀ (a b c d : Nat), (D.gs a b c d).cells? = some [.gs a b c d]) ∧ (∀ (a b : Nat), (D.ptr a b).cells? = some [.ptr a b]) ∧ (∀ (a : Nat), (D.mp a).cells? = some [.mp a]) ∧
    (∀ (off : Nat) (cs : List D), setAt cs off ([] : List D) = cs) ∧ (∀ (off : Nat) (cs : List D) (v : D) (vs : List D), setAt cs off (v :: vs) = setAt (cs.set off v) (off + 1) vs) ∧
    (∀ (a b : Nat), Nat.ble a b = decide (a ≤ b)) ∧ (∀ (a b : Nat), Nat.beq a b = decide (a = b)) ∧
    (∀ (k : IntKind) (i : Int), isAg (.int k i) = false) ∧ (∀ (b : Bool), isAg (.bool b) = false) ∧ (∀ (b : List UInt8), isAg (.str b) = false) ∧ (isAg .nils = false) ∧ (∀ (a b c d e : Nat), isAg (.ms a b c d e) = false) ∧ (∀ (a b c d : Nat), isAg (.gs a b c d) = false) ∧ (∀ (a b : Nat), isAg (.ptr a b) = false) ∧ (∀ (a : Nat), isAg (.mp a) = false) := by
  refine ⟨fun _ _ => rfl, fun _ _ _ => rfl, fun s nm off => ?_, fun _ _ => rfl, fun _ _ => rfl, fun _ _ => rfl, fun _ => rfl, fun _ => rfl, fun _ => rfl, rfl, fun _ _ _ _ _ => rfl, fun _ _ _ _ => rfl, fun _ _ => rfl, fun _ => rfl, fun _ _ => by simp [setAt], fun _ _ _ _ => rfl,
    fun a b => ?_, fun a b => ?_, fun _ _ => rfl, fun _ => rfl, fun _ => rfl, rfl, fun _ _ _ _ _ => rfl, fun _ _ _ _ => rfl, fun _ _ => rfl, fun _ => rfl⟩
  · simp only [seen, Option.bind_eq_bind]
    cases sget s nm with
    | none => rfl
    | some b => simp only [Option.bind_some]; cases blkCells b <;> rfl
  · rw [Bool.eq_iff_iff]; simp [Nat.ble_eq]
  · rw [Bool.eq_iff_iff]; simp [Nat.beq_eq]
theorem ex_str : (∀ (x y : List UInt8), binD .eql (.str x) (.str y) = some (.bool (decide (x = y)))) ∧ (∀ (x y : List UInt8), binD .neq (.str x) (.str y) = some (.bool (!decide (x = y)))) ∧ (∀ (s : List UInt8), lenD true (.str s) = some s.length) ∧
    (∀ (b : Bool), unD .not (.bool b) = some (.bool (!b))) ∧ (∀ (k : IntKind) (n : Int), unD .neg (.int k n) = some (.int k (wrapD k (0 - n)))) ∧ (∀ (G : List (Nat × List D)) (t : Tm) (n : Nat), (Arg.g n).ev G t = (match lget G n with | some l => .iptr l 0 | none => .un)) ∧
    (∀ (a : D), aggD a = [a]) ∧ (∀ (o : Option D), undD o = match o with | some d => d | none => .un) := by
  refine ⟨fun x y => ?_, fun x y => ?_, fun _ => rfl, fun _ => rfl, fun _ _ => rfl, fun G t n => ?_, fun _ => rfl, fun o => by cases o <;> rfl⟩
  · show some (D.bool (x == y)) = _
    rw [show (x == y) = decide (x = y) from by rw [Bool.eq_iff_iff]; simp]
  · show some (D.bool (!(x == y))) = _
    rw [show (x == y) = decide (x = y) from by rw [Bool.eq_iff_iff]; simp]
  · show (Option.rec D.un (fun l => D.iptr l 0) (lget G n) : D) = _
    cases lget G n <;> rfl
theorem ex_gd : (∀ (cx : Cx) (cl : CL) (dst : Option Nat) (op : AOp) (g : Nat) (w : Bool) (r : List AOper) (x : AS), zOps cx cl (⟨dst, op, some (g, w)⟩ :: r) x = zgd (tget x.t g) w (zbind (zOp cx cl ⟨dst, op, some (g, w)⟩ x) (zOps cx cl r)) (zOps cx cl r ⟨putT dst x.t (.tup []), x.s, x.c, x.d, x.r⟩)) :=
  zOps_g
theorem idxD_0 {n : Nat} {k : IntKind} (h : 0 < n) : idxD n (.int k 0) = some 0 := idxD_nat (i := 0) h
theorem ex_call : (∀ (o : List D → Option (D × Bool)) (args : List D) (s : St) (c : Nat), pcall o args s c = (match args.mapM (frz false 20 s) with
      | some fa => match o fa with
        | some p => bif p.2 || (p.1.flat || D.pures args) then .ok (.ret p.1) s c else .no
        | none => .no
      | none => .no)) ∧
    (∀ (f : D → Option D), ([] : List D).mapM f = some []) ∧ (∀ (f : D → Option D) (a : D) (l : List D), (a :: l).mapM f = (f a).bind fun b => (l.mapM f).map fun r => b :: r) ∧
    (∀ (p : Bool) (n : Nat) (s : St) (k : IntKind) (i : Int), frz p (n + 1) s (.int k i) = some (.int k i)) ∧ (∀ (p : Bool) (n : Nat) (s : St) (b : Bool), frz p (n + 1) s (.bool b) = some (.bool b)) ∧ (∀ (p : Bool) (n : Nat) (s : St) (b : List UInt8), frz p (n + 1) s (.str b) = some (.str b)) ∧
    (∀ (p : Bool) (n : Nat) (s : St) (cs : List D), frz p (n + 1) s (.agg cs) = (cs.mapM (frz p n s)).map .agg) ∧ (∀ (p : Bool) (n : Nat) (s : St) (cs : List D), frz p (n + 1) s (.tup cs) = (cs.mapM (frz p n s)).map .tup) ∧
    (∀ (p : Bool) (n : Nat) (s : St), frz p (n + 1) s .nils = some .nils) ∧ (∀ (p : Bool) (n : Nat) (s : St), frz p (n + 1) s .nilp = some .nilp) ∧ (∀ (n : Nat) (s : St) (cs : List D) (o : Nat), frz false (n + 1) s (.iptr cs o) = some (.iptr cs o)) ∧
    (∀ (n : Nat) (s : St) (e : Bool) (l : Nat) (cs : List D), frz false (n + 1) s (.sl e l cs) = some (.sl e l cs)) ∧
    (∀ (p : Bool) (n : Nat) (s : St) (f : Fn) (a b : List D), frz p (n + 1) s (.fn f a b) = (a.mapM (frz p n s)).bind fun a => (b.mapM (frz p n s)).map fun b => .fn f a b) ∧
    (∀ (p : Bool) (n : Nat) (s : St) (nm off : Nat), frz p (n + 1) s (.ptr nm off) = (match sget s nm with
      | some (.fix _ cs) => (cs.mapM (frz p n s)).map fun cs => .iptr cs off
      | _ => none)) := by
  refine ⟨fun _ _ _ _ => rfl, fun _ => rfl, fun f a l => ?_, fun _ _ _ _ _ => rfl, fun _ _ _ _ => rfl, fun _ _ _ _ => rfl, fun _ _ _ _ => rfl, fun _ _ _ _ => rfl, fun _ _ _ => rfl, fun _ _ _ => rfl, fun _ _ _ _ => rfl, fun _ _ _ _ _ => rfl, fun p n s f a b => ?_, fun _ _ _ _ _ => rfl⟩
  · simp only [List.mapM_cons, Option.bind_eq_bind, Option.pure_def]
    cases f a with
    | none => rfl
    | some b => simp only [Option.bind_some]; cases l.mapM f <;> rfl
  · simp only [frz, Option.bind_eq_bind]
    cases a.mapM (frz p n s) with
    | none => rfl
    | some q => simp only [Option.bind_some]; cases b.mapM (frz p n s) <;> rfl
theorem ex_opt : (∀ (h : Decidable True), @decide True h = true) ∧ (∀ (h : Decidable False), @decide False h = false) ∧ (∀ (α β : Type) (f : α → β) (a : α), (some a).map f = some (f a)) ∧ (∀ (α β : Type) (f : α → β), (none : Option α).map f = none) ∧ (∀ (α β : Type) (f : α → Option β) (a : α), (some a).bind f = f a) ∧ (∀ (α β : Type) (f : α → Option β), (none : Option α).bind f = none) ∧
    (∀ (α β : Type) (x : Option α) (f : α → Option β), (x >>= f) = x.bind f) ∧ (∀ (α : Type) (x y : α), (bif true then x else y) = x) ∧ (∀ (α : Type) (x y : α), (bif false then x else y) = y) ∧
    ((!true) = false) ∧ ((!false) = true) ∧ (∀ b, (true || b) = true) ∧ (∀ b, (false || b) = b) ∧ (∀ b, (b || true) = true) ∧ (∀ b, (b || false) = b) ∧ (∀ b, (true && b) = b) ∧ (∀ b, (false && b) = false) ∧ (∀ b, (b && true) = b) ∧ (∀ b, (b && false) = false) := by
  refine ⟨fun _ => decide_eq_true trivial, fun _ => decide_eq_false id, fun _ _ _ _ => rfl, fun _ _ _ => rfl, fun _ _ _ _ => rfl, fun _ _ _ => rfl, fun _ _ _ _ => rfl, fun _ _ _ => rfl, fun _ _ _ => rfl, rfl, rfl, fun b => ?_, fun b => ?_, fun b => ?_, fun b => ?_, fun b => ?_, fun b => ?_, fun b => ?_, fun b => ?_⟩ <;> cases b <;> rfl
theorem ex_lst : (∀ (a : D) (l : List D), (a :: l).length = l.length + 1) ∧ (([] : List D).length = 0) ∧ (∀ (a v : D) (l : List D), (a :: l).set 0 v = v :: l) ∧ (∀ (a v : D) (l : List D) (n : Nat), (a :: l).set (n + 1) v = a :: l.set n v) ∧
    (∀ (a : D) (l : List D), (a :: l)[0]? = some a) ∧ (∀ (a : D) (l : List D) (n : Nat), (a :: l)[n + 1]? = l[n]?) ∧ (∀ (n : Nat), ([] : List D)[n]? = none) ∧ (∀ (a : D) (l : List D), (a :: l).any isAg = (isAg a || l.any isAg)) ∧ (([] : List D).any isAg = false) ∧
    (∀ (l : List D), l.drop 0 = l) ∧ (∀ (a : D) (l : List D) (n : Nat), (a :: l).drop (n + 1) = l.drop n) ∧ (∀ (l : List D), l.take 0 = []) ∧ (∀ (a : D) (l : List D) (n : Nat), (a :: l).take (n + 1) = a :: l.take n) ∧ (∀ (n : Nat), ([] : List D).take n = []) ∧ (∀ (n : Nat), ([] : List D).drop n = []) ∧
    (∀ (cs : List D) (off n : Nat), takeAt cs off (some n) = bif Nat.ble (off + n) cs.length then some (.agg ((cs.drop off).take n)) else none) ∧
    (∀ (G : List (Nat × List D)) (t : Tm), parts G t [] = []) ∧ (∀ (G : List (Nat × List D)) (t : Tm) (o n : Nat) (a : Arg) (l : List (Nat × Nat × Arg)), parts G t ((o, n, a) :: l) = (o, n, a.ev G t) :: parts G t l) ∧
    (∀ (cs : List D), place cs [] = some cs) ∧ (∀ (cells : List D) (off n : Nat) (d : D) (r : List (Nat × Nat × D)), place cells ((off, n, d) :: r) = (match d.cells? with
      | some cs => bif Nat.beq cs.length n && Nat.ble (off + n) cells.length then place (setAt cells off cs) r else none
      | none => none)) ∧
    (∀ (ty off : Nat) (cs vs : List D), stB (.fix ty cs) off vs = bif vs.any isAg then none else bif Nat.ble (off + vs.length) cs.length then some (.fix ty (setAt cs off vs)) else none) := by
  refine ⟨fun _ _ => rfl, rfl, fun _ _ _ => rfl, fun _ _ _ _ => rfl, fun _ _ => rfl, fun _ _ _ => rfl, fun _ => rfl, fun _ _ => rfl, rfl, fun _ => rfl, fun _ _ _ => rfl, fun _ => rfl, fun _ _ _ => rfl, fun _ => List.take_nil, fun _ => List.drop_nil, fun _ _ _ => rfl, fun _ _ => rfl, fun _ _ _ _ _ _ => rfl, fun _ => rfl, fun _ _ _ _ _ => rfl, fun _ _ _ _ => rfl⟩
theorem ex : type_of% ex_code ∧ type_of% ex_op ∧ type_of% ex_st ∧ type_of% ex_val ∧ type_of% ex_num ∧ type_of% ex_end ∧ type_of% ex_any ∧ type_of% ex_dat ∧ type_of% ex_str ∧ type_of% ex_gd ∧ type_of% ex_opt ∧ type_of% ex_lst ∧ type_of% @go1 := ⟨ex_code, ex_op, ex_st, ex_val, ex_num, ex_end, ex_any, ex_dat, ex_str, ex_gd, ex_opt, ex_lst, @go1⟩
end Zv
namespace Zv
open Go
theorem wrap_nat {k : IntKind} {x : Nat} (h : x ≤ hiK k) : k.wrap (x : Int) = (x : Int) := by
  rw [← wrapD_eq]; exact wrapD_fits (by omega) (by omega)
theorem binD_bits {op : BinOp} (k : IntKind) (x y : Int) (h : op = .and ∨ op = .or ∨ op = .xor ∨ op = .andNot) : binD op (.int k x) (.int k y) = bitsD op k x y := by
  rcases h with rfl | rfl | rfl | rfl <;> simp [binD, intD]
theorem b_and_u8 {x y : Nat} (hx : x < 256) (hy : y < 256) : binD .and (.int .u8 (x : Int)) (.int .u8 (y : Int)) = some (.int .u8 ((x &&& y : Nat) : Int)) := by
  have h : x &&& y < 256 := Nat.lt_of_le_of_lt Nat.and_le_left hx
  rw [binD_bits _ _ _ (.inl rfl)]
  simp only [bitsD, BitVec.ofInt_natCast, BitVec.toNat_and, BitVec.toNat_ofNat]
  rw [Nat.mod_eq_of_lt (show x < 2 ^ IntKind.bits .u8 from hx), Nat.mod_eq_of_lt (show y < 2 ^ IntKind.bits .u8 from hy), wrap_nat (show _ ≤ 255 by omega)]
theorem b_or_u8 {x y : Nat} (hx : x < 256) (hy : y < 256) : binD .or (.int .u8 (x : Int)) (.int .u8 (y : Int)) = some (.int .u8 ((x ||| y : Nat) : Int)) := by
  have h : x ||| y < 256 := Nat.or_lt_two_pow (n := 8) hx hy
  rw [binD_bits _ _ _ (.inr (.inl rfl))]
  simp only [bitsD, BitVec.ofInt_natCast, BitVec.toNat_or, BitVec.toNat_ofNat]
  rw [Nat.mod_eq_of_lt (show x < 2 ^ IntKind.bits .u8 from hx), Nat.mod_eq_of_lt (show y < 2 ^ IntKind.bits .u8 from hy), wrap_nat (show _ ≤ 255 by omega)]
theorem fdiv_nat (x y : Nat) : Int.fdiv (x : Int) (y : Int) = ((x / y : Nat) : Int) := Int.fdiv_eq_ediv_of_nonneg _ (by omega)
theorem shr_small {x : Nat} (b w : Nat) (hx : x < 2 ^ w) : x / 2 ^ (min b w) = x >>> b := by
  rw [Nat.shiftRight_eq_div_pow]
  by_cases h : b ≤ w
  · rw [Nat.min_eq_left h]
  · rw [Nat.min_eq_right (by omega), Nat.div_eq_of_lt hx, Nat.div_eq_of_lt]
    exact Nat.lt_of_lt_of_le hx (Nat.pow_le_pow_right (by omega) (by omega))
theorem binD_shr (k j : IntKind) (x y : Int) : binD .shr (.int k x) (.int j y) = shD .shr k x y := rfl
theorem binD_shl (k j : IntKind) (x y : Int) : binD .shl (.int k x) (.int j y) = shD .shl k x y := rfl
theorem b_shr_u8 {x : Nat} (b : Nat) (hx : x < 256) {j : IntKind} : binD .shr (.int .u8 (x : Int)) (.int j (b : Int)) = some (.int .u8 ((x >>> b : Nat) : Int)) := by
  rw [binD_shr]
  simp only [shD]
  rw [if_neg (by omega), Int.toNat_natCast, show ((2 : Int) ^ (min b (IntKind.bits .u8))) = ((2 ^ (min b 8) : Nat) : Int) by rw [Int.natCast_pow]; rfl, fdiv_nat, shr_small b 8 hx]
theorem bit_eq (x b : Nat) : (x >>> b) &&& 1 = if x.testBit b then 1 else 0 := by
  rw [Nat.and_comm, Nat.testBit]
  have : 1 &&& x >>> b = (x >>> b) % 2 := by rw [Nat.and_comm, Nat.and_one_is_mod]
  rw [this]
  have h2 : (x >>> b) % 2 < 2 := Nat.mod_lt _ (by omega)
  have h3 : (x >>> b) % 2 = 0 ∨ (x >>> b) % 2 = 1 := by omega
  rcases h3 with h | h <;> simp [h]
theorem shr_lt {x w : Nat} (b : Nat) (h : x < w) : x >>> b < w := Nat.lt_of_le_of_lt (Nat.shiftRight_le x b) h
def bitN (x b : Nat) : Nat := if x.testBit b then 1 else 0
theorem b_bit_u8 {x : Nat} (b : Nat) (hx : x < 256) : binD .and (.int .u8 ((x >>> b : Nat) : Int)) (.int .u8 1) = some (.int .u8 ((bitN x b : Nat) : Int)) := by
  rw [show (1 : Int) = ((1 : Nat) : Int) from rfl, b_and_u8 (shr_lt b hx) (by omega), bit_eq]; rfl
theorem bitN_1 (x b : Nat) : decide (((bitN x b : Nat) : Int) = 1) = x.testBit b := by unfold bitN; cases x.testBit b <;> rfl
theorem bitN_0 (x b : Nat) : decide (((bitN x b : Nat) : Int) = 0) = !x.testBit b := by unfold bitN; cases x.testBit b <;> rfl
theorem two_pow_lt {i : Nat} (h : i < 8) : 2 ^ i < 256 := Nat.pow_lt_pow_right (a := 2) (m := i) (n := 8) (by omega) h
theorem b_shl_bit {x b i : Nat} (hi : i < 8) {j : IntKind} : binD .shl (.int .u8 ((bitN x b : Nat) : Int)) (.int j (i : Int)) = some (.int .u8 ((if x.testBit b then 2 ^ i else 0 : Nat) : Int)) := by
  rw [binD_shl]
  simp only [shD]
  rw [if_neg (by omega), Int.toNat_natCast, show IntKind.bits .u8 = 8 from rfl, Nat.min_eq_left (by omega)]
  have h2 := two_pow_lt hi
  unfold bitN
  cases x.testBit b
  · simp only [Bool.false_eq_true, if_false, Int.natCast_zero, Int.zero_mul]; rfl
  · simp only [if_true]
    rw [show ((1 : Nat) : Int) * 2 ^ i = ((2 ^ i : Nat) : Int) by rw [Int.natCast_pow]; simp]
    generalize 2 ^ i = q at h2 ⊢
    rw [wrapD_fits (by simp only [loK]; omega) (by simp only [hiK]; omega)]
/-! The first place that says something. -/
def scan {β : Type} (p : Nat → Option β) (z : β) : Nat → Nat → β
  | 0, _ => z
  | k + 1, i => match p i with
    | some r => r
    | none => scan p z k (i + 1)
theorem scan_none {β : Type} {p : Nat → Option β} {z : β} : ∀ {k i : Nat}, (∀ j, i ≤ j → j < i + k → p j = none) → scan p z k i = z
  | 0, i, h => rfl
  | k + 1, i, h => by
    simp only [scan, h i (Nat.le_refl i) (by omega)]
    exact scan_none fun j h1 h2 => h j (by omega) (by omega)
theorem scan_first {β : Type} {p : Nat → Option β} {z r : β} : ∀ {k i m : Nat}, i ≤ m → m < i + k → p m = some r → (∀ j, i ≤ j → j < m → p j = none) → scan p z k i = r
  | 0, i, m, h1, h2, hm, h => by omega
  | k + 1, i, m, h1, h2, hm, h => by
    by_cases e : i = m
    · subst e; simp only [scan, hm]
    · simp only [scan, h i (Nat.le_refl i) (by omega)]
      exact scan_first (by omega) (by omega) hm fun j h3 h4 => h j (by omega) h4
theorem scan_cases {β : Type} (p : Nat → Option β) (z : β) : ∀ (k i : Nat), ((∀ j, i ≤ j → j < i + k → p j = none) ∧ scan p z k i = z) ∨
    ∃ m r, i ≤ m ∧ m < i + k ∧ p m = some r ∧ (∀ j, i ≤ j → j < m → p j = none) ∧ scan p z k i = r
  | 0, i => .inl ⟨fun j h1 h2 => by omega, rfl⟩
  | k + 1, i => by
    cases hp : p i with
    | some r => exact .inr ⟨i, r, Nat.le_refl i, by omega, hp, fun j h1 h2 => by omega, by simp only [scan, hp]⟩
    | none =>
      rcases scan_cases p z k (i + 1) with ⟨h1, h2⟩ | ⟨m, r, h1, h2, h3, h4, h5⟩
      · refine .inl ⟨fun j h3 h4 => ?_, by simp only [scan, hp, h2]⟩
        by_cases e : i = j
        · rw [← e]; exact hp
        · exact h1 j (by omega) (by omega)
      · refine .inr ⟨m, r, by omega, by omega, h3, fun j h6 h7 => ?_, by simp only [scan, hp, h5]⟩
        by_cases e : i = j
        · rw [← e]; exact hp
        · exact h4 j (by omega) (by omega)
theorem scan_congr {β : Type} {p q : Nat → Option β} {z : β} : ∀ {k i : Nat}, (∀ j, i ≤ j → j < i + k → p j = q j) → scan p z k i = scan q z k i
  | 0, i, h => rfl
  | k + 1, i, h => by
    simp only [scan, h i (Nat.le_refl i) (by omega)]
    rw [scan_congr (k := k) (i := i + 1) fun j h1 h2 => h j (by omega) (by omega)]
theorem scan_at {β : Type} {p : Nat → Option β} {z r : β} {n m : Nat} (h : m < n) (hm : p m = some r) (hb : ∀ j, j < m → p j = none) : scan p z n 0 = r := scan_first (Nat.zero_le m) (by omega) hm fun j _ h => hb j h
theorem scan_end {β : Type} {p : Nat → Option β} {z : β} {n : Nat} (hb : ∀ j, j < n → p j = none) : scan p z n 0 = z := scan_none fun j _ h => hb j (by omega)
theorem none_step {β : Type} {p : Nat → Option β} {i : Nat} (h : ∀ j, j < i → p j = none) (hi : p i = none) : ∀ j, j < i + 1 → p j = none := fun j hj => by
  rcases Nat.lt_succ_iff_lt_or_eq.1 hj with h1 | rfl
  · exact h j h1
  · exact hi
end Zv
namespace Zv
open Go
noncomputable section
def BAll (l : List R) (Q : R → Prop) : Prop := ∀ r ∈ l, Q r
def zq (K : AS → Prop) (Q : R → Prop) (r : R) : Prop := match r with
  | .ok .normal y => K y
  | .ok o y => Q (.ok o y)
  | .no => Q .no
theorem BAll_one {r : R} {Q : R → Prop} : BAll [r] Q ↔ Q r := by simp [BAll]
theorem BAll_then {l : List R} {f : AS → List R} {Q : R → Prop} : BAll (bThen l f) Q ↔ BAll l (zq (fun y => BAll (f y) Q) Q) := by
  unfold BAll bThen
  constructor
  · intro h r hr
    have h' : ∀ q, (q ∈ (match r with | .ok .normal y => f y | r => [r])) → Q q := fun q hq => h q (List.mem_flatMap.2 ⟨r, hr, hq⟩)
    unfold zq
    split
    · exact h'
    · rename_i o y hne
      refine h' _ ?_
      split
      · rename_i e; cases e; exact absurd rfl (hne · )
      · simp
    · exact h' _ (by simp)
  · intro h q hq
    obtain ⟨r, hr, hq⟩ := List.mem_flatMap.1 hq
    have hz := h r hr
    unfold zq at hz
    split at hq
    · exact hz q hq
    · rename_i hne
      rw [List.mem_singleton.1 hq]
      split at hz
      · exact absurd rfl (hne _)
      · exact hz
      · exact hz
def hasNx (ops : List AOper) : Bool := ops.any fun o => match o.op with | .nxm _ => true | _ => false
theorem bOps_plain (cx : Cx) (cl : CL) : ∀ (ops : List AOper), hasNx ops = false → ∀ x, bOps cx cl ops x = [zOps cx cl ops x]
  | [], _, x => rfl
  | o :: r, h, x => by
    have h1 : (match o.op with | .nxm _ => true | _ => false) = false := by
      simp only [hasNx, List.any_cons, Bool.or_eq_false_iff] at h
      exact h.1
    have h2 : hasNx r = false := by
      simp only [hasNx, List.any_cons, Bool.or_eq_false_iff] at h
      exact h.2
    have ih := bOps_plain cx cl r h2
    have hA : bAlt o cx.G x = none := by
      unfold bAlt
      split
      · rename_i a e; rw [e] at h1; cases h1
      · rfl
    have hz : zOps cx cl (o :: r) x = (Option.rec .no (zops_want o (fun cx cl x => zOps cx cl r x) cx cl x) (wanted o x) : R) := rfl
    unfold bOps
    rw [hz]
    cases hw : wanted o x with
    | none => rfl
    | some b =>
      cases b
      · simp only [ih]
        show [zOps cx cl r (x.put o.dst (.tup []))] = [zOps cx cl r ⟨putT o.dst x.t (.tup []), x.s, x.c, x.d, x.r⟩]
        cases o.dst <;> rfl
      · simp only [hA, bThen, List.flatMap_cons, List.flatMap_nil, List.append_nil]
        show (match zOp cx cl o x with | .ok .normal y => bOps cx cl r y | r => [r]) = [zbind (zOp cx cl o x) (zOps cx cl r)]
        cases zOp cx cl o x with
        | no => rfl
        | ok o' y => cases o' <;> simp only [ih] <;> rfl
theorem bC_plain (cx : Cx) (cl : CL) (k : Nat) : ∀ (c : AC), c.nx = false → ∀ x, bC cx cl k c x = [zC c cx cl k x] := by
  intro c
  induction c with
  | reg s ops =>
    intro h x
    cases s with
    | none => exact bOps_plain cx cl ops h x
    | some s => rfl
  | seq a b iha ihb => intro h x; have h' : (a.nx || b.nx) = false := h; unfold bC; rw [h']; rfl
  | cond v a b iha ihb =>
    intro h x
    have h' : (a.nx || b.nx) = false := h
    simp only [Bool.or_eq_false_iff] at h'
    rw [zC_cond]
    unfold bC zcond
    cases v.ev cx.G x.t <;> try rfl
    rename_i r
    cases r
    · exact ihb h'.2 x
    · exact iha h'.1 x
  | block id a iha => intro h x; have h' : a.nx = false := h; unfold bC; rw [h']; rfl
  | loop a iha => intro h x; have h' : a.nx = false := h; unfold bC; rw [h']; rfl
  | scope a iha => intro h x; unfold bC; exact iha h x
  | _ => intro h x; rfl
theorem W_plain {cx : Cx} {cl : CL} {k : Nat} {c : AC} {x : AS} {Q : R → Prop} (h : c.nx = false) : BAll (bC cx cl k c x) Q ↔ Q (zC c cx cl k x) := by rw [bC_plain cx cl k c h, BAll_one]
theorem W_seq {cx : Cx} {cl : CL} {k : Nat} {a b : AC} {x : AS} {Q : R → Prop} (h : (a.nx || b.nx) = true) : BAll (bC cx cl k (.seq a b) x) Q ↔ BAll (bC cx cl k a x) (zq (fun y => BAll (bC cx cl k b y) Q) Q) := by
  show BAll (bif a.nx || b.nx then bThen (bC cx cl k a x) (bC cx cl k b) else _) Q ↔ _
  rw [h, cond_true, BAll_then]
theorem W_seq1 {cx : Cx} {cl : CL} {k : Nat} {a b : AC} {x : AS} {Q : R → Prop} (h : b.nx = true) (ha : a.nx = false) : BAll (bC cx cl k (.seq a b) x) Q ↔ zq (fun y => BAll (bC cx cl k b y) Q) Q (zC a cx cl k x) := by
  rw [W_seq (by rw [h, Bool.or_true]), W_plain ha]
theorem W_block {cx : Cx} {cl : CL} {k id : Nat} {a : AC} {x : AS} {Q : R → Prop} (h : a.nx = true) : BAll (bC cx cl k (.block id a) x) Q ↔ BAll (bC cx cl k a x) (fun r => Q (zblkR id r)) := by
  show BAll (bif a.nx then (bC cx cl k a x).map fun r => (R.rec .no (zblk id) r : R) else _) Q ↔ _
  rw [h, cond_true]
  unfold BAll
  simp only [List.mem_map, forall_exists_index, and_imp, forall_apply_eq_imp_iff₂]
  exact Iff.rfl
theorem zq_law : (∀ (K : AS → Prop) (Q : R → Prop) (y : AS), zq K Q (.ok .normal y) = K y) ∧ (∀ (K : AS → Prop) (Q : R → Prop) (y : AS), zq K Q (.ok .ret y) = Q (.ok .ret y)) ∧ (∀ (K : AS → Prop) (Q : R → Prop) (i : Nat) (y : AS), zq K Q (.ok (.exit i) y) = Q (.ok (.exit i) y)) ∧ (∀ (K : AS → Prop) (Q : R → Prop) (c : Ch) (y : AS), zq K Q (.ok (.pan c) y) = Q (.ok (.pan c) y)) :=
  ⟨fun _ _ _ => rfl, fun _ _ _ => rfl, fun _ _ _ _ => rfl, fun _ _ _ _ => rfl⟩
/-! A range over a map that stays as it is. -/
abbrev MEnt := D × D × Nat
def borns (l : List MEnt) : List Nat := l.map fun e => e.2.2
def rest (es : List MEnt) (seen : List Nat) : List MEnt := es.filter fun e => !seen.any (Nat.beq e.2.2)
theorem rest_snoc (es : List MEnt) (seen : List Nat) (b : Nat) : rest es (seen ++ [b]) = (rest es seen).filter fun e => !Nat.beq e.2.2 b := by
  unfold rest
  rw [List.filter_filter]
  congr 1
  funext e
  simp only [List.any_append, List.any_cons, List.any_nil, Bool.or_false, Bool.not_or]
  rw [Bool.and_comm]
theorem filter_perm {e : MEnt} : ∀ {l : List MEnt}, (borns l).Nodup → e ∈ l → (e :: l.filter fun x => !Nat.beq x.2.2 e.2.2).Perm l
  | [], _, h => by simp at h
  | x :: l, hn, h => by
    simp only [borns, List.map_cons, List.nodup_cons] at hn
    rcases List.mem_cons.1 h with rfl | h
    · have hf : (l.filter fun x => !Nat.beq x.2.2 e.2.2) = l := by
        rw [List.filter_eq_self]
        intro y hy
        rw [beq_ne (fun h' => hn.1 (by rw [← h']; exact List.mem_map_of_mem hy))]; rfl
      rw [List.filter_cons, Nat.beq_refl, hf]
      exact .refl _
    · have hne : x.2.2 ≠ e.2.2 := fun h' => hn.1 (by rw [h']; exact List.mem_map_of_mem h)
      rw [List.filter_cons, beq_ne hne]
      exact (List.Perm.swap x e _).trans ((filter_perm hn.2 h).cons x)
theorem rest_nodup {es : List MEnt} (h : (borns es).Nodup) (seen : List Nat) : (borns (rest es seen)).Nodup := List.Nodup.sublist (List.Sublist.map _ List.filter_sublist) h
theorem nx_cond {es : List MEnt} {c0 : Nat} (hb : ∀ e ∈ es, e.2.2 < c0) (seen : List Nat) : (seen.isEmpty || es.isEmpty || es.any fun e => Nat.blt e.2.2 c0) = true := by
  cases es with
  | nil => simp
  | cons e l =>
    have : Nat.blt e.2.2 c0 = true := by rw [Nat.blt_eq]; exact hb e (by simp)
    simp [this]
theorem nx_step {cx : Cx} {cl : CL} {ti tn tok : Nat} {es : List MEnt} {c0 nI nM : Nat} (hb : ∀ e ∈ es, e.2.2 < c0) {seen : List Nat} {t : Tm} {s : St} {c : Nat} {d : List (D × List D)} {r : Option Nat} (hne : tn ≠ tok)
    (hti : tget t ti = .it nI) (hsM : sget s nM = some (.mp es c0)) (hsI : sget s nI = some (.mit (some nM) c0 seen c0)) {Q : R → Prop} {K : AS → Prop} (h0 : rest es seen = [] → K ⟨tput (tput t tn (.tup [.bool false])) tok (.bool false), s, c, d, r⟩)
    (h1 : ∀ e ∈ rest es seen, K ⟨tput (tput t tn (.tup [.bool true, e.1, e.2.1])) tok (.bool true), sset s nI (.mit (some nM) c0 (seen ++ [e.2.2]) c0), c, d, r⟩) :
    BAll (bOps cx cl [⟨some tn, .nxm (.t ti), none⟩, ⟨some tok, .ext 0 (.t tn), none⟩] ⟨t, s, c, d, r⟩) (zq K Q) := by
  have hlt : ∀ e ∈ rest es seen, Nat.blt e.2.2 c0 = true := fun e he => by rw [Nat.blt_eq]; exact hb e (List.mem_filter.1 he).1
  have hev : (Arg.t ti).ev cx.G t = .it nI := hti
  have ext1 : ∀ (v : D) (l : List D) (s' : St), bOps cx cl [⟨some tok, .ext 0 (.t tn), none⟩] ⟨tput t tn (.tup (v :: l)), s', c, d, r⟩ = [.ok .normal ⟨tput (tput t tn (.tup (v :: l))) tok v, s', c, d, r⟩] := fun v l s' => by
    rw [bOps_plain _ _ _ rfl]
    simp only [ex_code, ex_op, ex_st, ex_val, ↓reduceIte, List.getElem?_cons_zero, Option.bind_eq_bind, Option.bind_some]
  show BAll (match nxmAll (.t ti) cx.G ⟨t, s, c, d, r⟩ with
    | some l => l.flatMap fun p => bOps cx cl [⟨some tok, .ext 0 (.t tn), none⟩] ⟨tput p.2.t tn p.1, p.2.s, p.2.c, p.2.d, p.2.r⟩
    | none => bThen [zOp cx cl ⟨some tn, .nxm (.t ti), none⟩ ⟨t, s, c, d, r⟩] (bOps cx cl [⟨some tok, .ext 0 (.t tn), none⟩])) (zq K Q)
  have hall : nxmAll (.t ti) cx.G ⟨t, s, c, d, r⟩ = bif Nat.ble 2 (rest es seen).length then some ((rest es seen).map fun e => (.tup [.bool true, e.1, e.2.1], ⟨t, sset s nI (.mit (some nM) c0 (seen ++ [e.2.2]) c0), c, d, r⟩)) else none := by
    have ha : (rest es seen).all (fun e => Nat.blt e.2.2 c0) = true := List.all_eq_true.2 hlt
    unfold nxmAll
    simp only [hev, hsI, hsM, nx_cond hb, Bool.true_and]
    show (bif Nat.ble 2 (rest es seen).length && (rest es seen).all (fun e => Nat.blt e.2.2 c0) then _ else _) = _
    rw [ha, Bool.and_true]
    rfl
  rw [hall]
  cases hr : rest es seen with
  | nil =>
    have hz : zOp cx cl ⟨some tn, .nxm (.t ti), none⟩ ⟨t, s, c, d, r⟩ = .ok .normal ⟨tput t tn (.tup [.bool false]), s, c, d, r⟩ := by
      have hr' : (es.filter fun e => !seen.any (Nat.beq e.2.2)) = [] := hr
      simp only [ex_op, ex_st, ex_val, hti, hsI, hsM, nx_cond hb, cond_true, hr']
    simp only [List.length_nil, Nat.ble, cond_false, hz]
    rw [BAll_then, BAll_one]
    simp only [zq_law, ext1]
    rw [BAll_one]
    exact h0 hr
  | cons e l =>
    cases l with
    | nil =>
      have hz : zOp cx cl ⟨some tn, .nxm (.t ti), none⟩ ⟨t, s, c, d, r⟩ = .ok .normal ⟨tput t tn (.tup [.bool true, e.1, e.2.1]), sset s nI (.mit (some nM) c0 (seen ++ [e.2.2]) c0), c, d, r⟩ := by
        have hr' : (es.filter fun e => !seen.any (Nat.beq e.2.2)) = [e] := hr
        simp only [ex_op, ex_st, ex_val, hti, hsI, hsM, nx_cond hb, cond_true, hr', hlt e (by rw [hr]; simp)]
      simp only [List.length_cons, List.length_nil, Nat.ble, cond_false, hz]
      rw [BAll_then, BAll_one]
      simp only [zq_law, ext1]
      rw [BAll_one]
      exact h1 e (by rw [hr]; simp)
    | cons e2 l =>
      have h2 : Nat.ble 2 (e :: e2 :: l).length = true := Nat.ble_eq_true_of_le (by simp)
      simp only [h2, cond_true]
      intro q hq
      obtain ⟨p, hp, hq⟩ := List.mem_flatMap.1 hq
      obtain ⟨e', he', rfl⟩ := List.mem_map.1 hp
      simp only [ext1, List.mem_singleton] at hq
      rw [hq]
      exact h1 e' (by rw [hr]; exact he')
theorem bmap {Q : R → Prop} {cx : Cx} {cl : CL} {k ti tn tok id id' : Nat} {body : AC} {t0 : Tm} {s0 : St} {cc : Nat} {d : List (D × List D)} {r : Option Nat} {es : List MEnt} {c0 nI nM : Nat} (hbody : body.nx = false)
    (hk : es.length < k) (hb : ∀ e ∈ es, e.2.2 < c0) (hnd : (borns es).Nodup) (I : List MEnt → Tm → St → Nat → Prop) (hne : ti ≠ tn ∧ ti ≠ tok ∧ tn ≠ tok)
    (hti : tget t0 ti = .it nI) (hsM : sget s0 nM = some (.mp es c0)) (hsI : sget s0 nI = some (.mit (some nM) c0 [] c0)) (hIM : nI ≠ nM) (h0 : I [] t0 s0 cc)
    (hs : ∀ done e t s c, I done t s c → e ∈ es → (∀ x ∈ done, x ∈ es) → (borns (done ++ [e])).Nodup → done.length < es.length → tget t ti = .it nI → sget s nM = some (.mp es c0) → sget s nI = some (.mit (some nM) c0 (borns done) c0) →
      Go1 Q (fun z => z.d = d ∧ z.r = r ∧ tget z.t ti = .it nI ∧ sget z.s nM = some (.mp es c0) ∧ sget z.s nI = some (.mit (some nM) c0 (borns (done ++ [e])) c0) ∧ I (done ++ [e]) z.t z.s z.c)
        (zblkR id' (zC body cx cl k ⟨tput (tput t tn (.tup [.bool true, e.1, e.2.1])) tok (.bool true), sset s nI (.mit (some nM) c0 (borns (done ++ [e])) c0), c, d, r⟩)))
    (he : ∀ done t s c, I done t s c → done.Perm es → tget t ti = .it nI → sget s nM = some (.mp es c0) → Q (.ok (.exit id) ⟨tput (tput t tn (.tup [.bool false])) tok (.bool false), s, c, d, r⟩)) :
    BAll (bC cx cl k (.loop (.seq (.reg none [⟨some tn, .nxm (.t ti), none⟩, ⟨some tok, .ext 0 (.t tn), none⟩]) (.seq (.cond (.t tok) .skip (.exit id)) (.block id' body)))) ⟨t0, s0, cc, d, r⟩) Q := by
  have hbl : bC cx cl k (.loop (.seq (.reg none [⟨some tn, .nxm (.t ti), none⟩, ⟨some tok, .ext 0 (.t tn), none⟩]) (.seq (.cond (.t tok) .skip (.exit id)) (.block id' body)))) ⟨t0, s0, cc, d, r⟩ =
      bLoop (bC cx cl k (.seq (.reg none [⟨some tn, .nxm (.t ti), none⟩, ⟨some tok, .ext 0 (.t tn), none⟩]) (.seq (.cond (.t tok) .skip (.exit id)) (.block id' body)))) k ⟨t0, s0, cc, d, r⟩ := rfl
  rw [hbl]
  have main : ∀ (n : Nat) (k' : Nat) (done : List MEnt) (t : Tm) (s : St) (c : Nat), n + done.length = es.length → n < k' → I done t s c → (done ++ rest es (borns done)).Perm es →
      tget t ti = .it nI → sget s nM = some (.mp es c0) → sget s nI = some (.mit (some nM) c0 (borns done) c0) →
      BAll (bLoop (bC cx cl k (.seq (.reg none [⟨some tn, .nxm (.t ti), none⟩, ⟨some tok, .ext 0 (.t tn), none⟩]) (.seq (.cond (.t tok) .skip (.exit id)) (.block id' body)))) k' ⟨t, s, c, d, r⟩) Q := by
    intro n
    induction n with
    | zero =>
      intro k' done t s c hn hk' hI hp h1 h2 h3
      obtain ⟨k', rfl⟩ : ∃ j, k' = j + 1 := ⟨k' - 1, by omega⟩
      have hr : rest es (borns done) = [] := by
        have := hp.length_eq
        rw [List.length_append] at this
        exact List.eq_nil_of_length_eq_zero (by omega)
      show BAll (bThen _ _) Q
      rw [BAll_then, W_seq rfl]
      refine nx_step hb hne.2.2 h1 h2 h3 (fun _ => ?_) (fun e he' => ?_)
      · rw [W_plain (by show (false || body.nx) = false; rw [hbody]; rfl)]
        rw [hr, List.append_nil] at hp
        simp only [ex_code, ex_val, ↓reduceIte, zq_law]
        exact he done t s c hI hp h1 h2
      · rw [hr] at he'; cases he'
    | succ n ih =>
      intro k' done t s c hn hk' hI hp h1 h2 h3
      obtain ⟨k', rfl⟩ : ∃ j, k' = j + 1 := ⟨k' - 1, by omega⟩
      have hr : (rest es (borns done)).length = n + 1 := by
        have := hp.length_eq
        rw [List.length_append] at this
        omega
      show BAll (bThen _ _) Q
      rw [BAll_then, W_seq rfl]
      refine nx_step hb hne.2.2 h1 h2 h3 (fun h => by rw [h] at hr; simp at hr) (fun e he' => ?_)
      rw [W_plain (by show (false || body.nx) = false; rw [hbody]; rfl)]
      simp only [ex_code, ex_val, ↓reduceIte]
      have hbs : borns done ++ [e.2.2] = borns (done ++ [e]) := by simp [borns]
      have hp2 : (done ++ [e] ++ rest es (borns (done ++ [e]))).Perm es := by
        rw [← hbs, rest_snoc, List.append_assoc]
        exact ((filter_perm (rest_nodup hnd _) he').append_left done).trans hp
      have hsub : ∀ x ∈ done, x ∈ es := fun x hx => hp.mem_iff.1 (by simp [hx])
      have hnd2 : (borns (done ++ [e])).Nodup := by
        have := (hp2.map fun e : MEnt => e.2.2).nodup_iff.2 hnd
        rw [List.map_append] at this
        exact (List.nodup_append.1 this).1
      have hg := hs done e t s c hI (List.mem_filter.1 he').1 hsub hnd2 (by omega) h1 h2 h3
      rw [hbs]
      revert hg
      cases zblkR id' (zC body cx cl k ⟨tput (tput t tn (.tup [.bool true, e.1, e.2.1])) tok (.bool true), sset s nI (.mit (some nM) c0 (borns (done ++ [e])) c0), c, d, r⟩) with
      | no => intro hg; exact hg.elim
      | ok o z =>
        cases o with
        | normal =>
          rintro ⟨g1, g2, g3, g4, g5, g6⟩
          obtain ⟨zt, zs, zc, zd, zr⟩ := z
          simp only at g1 g2 g3 g4 g5 g6
          subst g1 g2
          simp only [zq_law]
          exact ih k' (done ++ [e]) zt zs zc (by simp; omega) (by omega) g6 hp2 g3 g4 g5
        | exit i => intro hg; simp only [zq_law]; exact hg
        | ret => intro hg; simp only [zq_law]; exact hg
        | pan ch => intro hg; simp only [zq_law]; exact hg
  refine main es.length k [] t0 s0 cc (by simp) hk h0 ?_ hti hsM hsI
  have : rest es (borns []) = es := List.filter_eq_self.2 fun _ _ => rfl
  rw [this]; exact .refl _
end
end Zv
namespace Zv
open Go
noncomputable section
@[elab_as_elim] theorem zfor {Q : R → Prop} (rl : R) {cx : Cx} {cl : CL} {k ti t1 t2 id' : Nat} {C body : AC} {t0 : Tm} {s0 : St} {c0 : Nat} {d : List (D × List D)} {r : Option Nat}
    (hz : zloop k (zC (.seq C (.seq (.block id' body) (.reg none [⟨some t1, .mv (.t ti), none⟩, ⟨some t2, .bin .add (.t t1) (.c (.int .i64 1)), none⟩, ⟨some ti, .mv (.t t2), none⟩]))) cx cl k) ⟨t0, s0, c0, d, r⟩ = rl)
    (n : Nat) (hk : n < k) (h63 : n < 9223372036854775807) (I : Nat → Tm → St → Nat → Prop) (hi : tget t0 ti = .int .i64 0) (h0 : I 0 t0 s0 c0)
    (hs : ∀ i t s c, i ≤ n → I i t s c → tget t ti = .int .i64 i →
      Go1 Q (fun z => i < n ∧ z.d = d ∧ z.r = r ∧ tget z.t ti = .int .i64 i ∧ I (i + 1) (tput (tput (tput z.t t1 (.int .i64 (i : Nat))) t2 (.int .i64 (i + 1 : Nat))) ti (.int .i64 (i + 1 : Nat))) z.s z.c)
        (zbind (zC C cx cl k ⟨t, s, c, d, r⟩) fun y => zblkR id' (zC body cx cl k y))) : Q rl := by
  refine zwhile rl hz n hk (fun i x => ∃ t s c, x = ⟨t, s, c, d, r⟩ ∧ tget t ti = .int .i64 i ∧ I i t s c) ⟨t0, s0, c0, rfl, hi, h0⟩ ?_
  rintro i x hin ⟨t, s, c, rfl, h1, h2⟩
  have hg := hs i t s c hin h2 h1
  simp only [ex_code]
  cases hC : zC C cx cl k ⟨t, s, c, d, r⟩ with
  | no => rw [hC] at hg; exact hg.elim
  | ok o y =>
    rw [hC] at hg
    cases o with
    | normal =>
      simp only [ex_code] at hg ⊢
      cases hb : zblkR id' (zC body cx cl k y) with
      | no => rw [hb] at hg; exact hg.elim
      | ok o z =>
        rw [hb] at hg
        cases o with
        | normal =>
          obtain ⟨g0, g1, g2, g3, g4⟩ := hg
          obtain ⟨zt, zs, zc, zd, zr⟩ := z
          simp only at g1 g2 g3 g4
          subst g1 g2
          simp only [ex_code, ex_op, ex_st, ex_val, ex_num, g3, ↓reduceIte, Option.map_some]
          rw [show wrapD .i64 ((i : Int) + 1) = ((i + 1 : Nat) : Int) from inc_i64 (by omega)]
          exact ⟨g0, _, _, _, rfl, by rw [tget_tput, if_pos rfl], g4⟩
        | exit i => simp only [ex_code]; exact hg
        | ret => simp only [ex_code]; exact hg
        | pan c => simp only [ex_code]; exact hg
    | exit i => simp only [ex_code] at hg ⊢; exact hg
    | ret => simp only [ex_code] at hg ⊢; exact hg
    | pan c => simp only [ex_code] at hg ⊢; exact hg
theorem ex_ls0 : (∀ (a : D) (l : List D), (a :: l).length = l.length + 1) ∧ (([] : List D).length = 0) ∧ (∀ (a v : D) (l : List D), (a :: l).set 0 v = v :: l) ∧ (∀ (a v : D) (l : List D) (n : Nat), (a :: l).set (n + 1) v = a :: l.set n v) ∧
    (∀ (a : D) (l : List D), (a :: l)[0]? = some a) ∧ (∀ (a : D) (l : List D) (n : Nat), (a :: l)[n + 1]? = l[n]?) ∧ (∀ (n : Nat), ([] : List D)[n]? = none) ∧ (∀ (a : D) (l : List D), (a :: l).any isAg = (isAg a || l.any isAg)) ∧ (([] : List D).any isAg = false) ∧
    (∀ (l : List D), l.drop 0 = l) ∧ (∀ (a : D) (l : List D) (n : Nat), (a :: l).drop (n + 1) = l.drop n) ∧ (∀ (l : List D), l.take 0 = []) ∧ (∀ (a : D) (l : List D) (n : Nat), (a :: l).take (n + 1) = a :: l.take n) ∧ (∀ (n : Nat), ([] : List D).take n = []) ∧ (∀ (n : Nat), ([] : List D).drop n = []) ∧
    (∀ (cs : List D) (off n : Nat), takeAt cs off (some n) = bif Nat.ble (off + n) cs.length then some (.agg ((cs.drop off).take n)) else none) ∧
    (∀ (G : List (Nat × List D)) (t : Tm), parts G t [] = []) ∧ (∀ (G : List (Nat × List D)) (t : Tm) (o n : Nat) (a : Arg) (l : List (Nat × Nat × Arg)), parts G t ((o, n, a) :: l) = (o, n, a.ev G t) :: parts G t l) ∧
    (∀ (cs : List D), place cs [] = some cs) ∧ (∀ (cells : List D) (off n : Nat) (d : D) (r : List (Nat × Nat × D)), place cells ((off, n, d) :: r) = (match d.cells? with
      | some cs => bif Nat.beq cs.length n && Nat.ble (off + n) cells.length then place (setAt cells off cs) r else none
      | none => none)) := by
  refine ⟨fun _ _ => rfl, rfl, fun _ _ _ => rfl, fun _ _ _ _ => rfl, fun _ _ => rfl, fun _ _ _ => rfl, fun _ => rfl, fun _ _ => rfl, rfl, fun _ => rfl, fun _ _ _ => rfl, fun _ => rfl, fun _ _ _ => rfl, fun _ => List.take_nil, fun _ => List.drop_nil, fun _ _ _ => rfl, fun _ _ => rfl, fun _ _ _ _ _ _ => rfl, fun _ => rfl, fun _ _ _ _ _ => rfl⟩
theorem exq : type_of% ex_code ∧ type_of% ex_op ∧ type_of% ex_st ∧ type_of% ex_val ∧ type_of% ex_num ∧ type_of% ex_end ∧ type_of% ex_any ∧ type_of% ex_dat ∧ type_of% ex_str ∧ type_of% ex_gd ∧ type_of% ex_opt ∧ type_of% @go1 := ⟨ex_code, ex_op, ex_st, ex_val, ex_num, ex_end, ex_any, ex_dat, ex_str, ex_gd, ex_opt, @go1⟩
end
theorem exb : (true == false) = false ∧ (false == true) = false ∧ (!true) = false ∧ (!false) = true ∧ (∀ n : Nat, 0 + n = n) := ⟨rfl, rfl, rfl, rfl, Nat.zero_add⟩
end Zv
