/- utf8.ValidString at this program. Conditions: none. -/
import Derived.Shelf.Unicode.ValidAny
import Derived.Test.YtoefcncofakjkaaGreatDoorTA
import Derived.Test.YtoefcncofakjkaaGreatDoorProg
set_option linter.unusedVariables false
set_option linter.unusedSimpArgs false
namespace Zv
open Go
theorem valid_spec {E:Env} {f:Nat} (hcf:callable E.P f=true)
  (hcon:∀ (M:Nat→Prop) (b:ByteArray) (w:World),b.size≤9223372036854775807→GRel E M w→Calls E.P f #[.string b] w fun e w'=>e = .returned (.bool (Go.Lib.validD b.data.toList))∧Go.RowKit.Below w.heap.size w w'):SpOK E f spValid:=by
 intro M0 w0 μ w s c args vals o s' c' h hv hs
 refine ⟨hcf,?_⟩
 unfold spValid at hs
 split at hs
 ·rename_i b
  cases hb:Nat.ble b.length 9223372036854775807 <;> rw [hb] at hs
  ·cases hs
  cases hs
  have hle:=Nat.le_of_ble_eq_true hb
  simp only [VRels] at hv
  obtain ⟨v,r,rfl,hv1,rfl⟩:=hv
  simp only [VRel] at hv1
  subst hv1
  refine (hcon _ _ w (by show b.toArray.size≤_; simpa using hle) (Rel.globals0 (show Rel E M0 w0 0 μ ⟨#[],[]⟩ w ⟨.ls [],s,c,[],none⟩ from h))).mono ?_
  rintro e w' ⟨rfl,hbe⟩
  obtain ⟨hR2,hF2⟩:=Rel.more (show Rel E M0 w0 0 μ ⟨#[],[]⟩ w ⟨.ls [],s,c,[],none⟩ from h) (w':=w') hbe.size ⟨hbe.os,hbe.output⟩ hbe.block
  exact ⟨μ,hR2,hF2,_,rfl,by simp only [VRel]⟩
 ·cases hs
end Zv
namespace Go.Proofs.YtoefcncofakjkaaGreatDoor
open Go Go.Shelf Go.RowKit Go.Lib
def laysValid_ren:Go.Shelf.Ren:=⟨fun|196=>91|259=>166|n=>n,fun|9=>9|4=>4|3=>3|5=>5|12=>12|119=>273|0=>0|46=>249|139=>276|138=>275|53=>317|n=>n,fun|3=>3|4=>4|n=>n⟩
theorem laysValid:Go.Proofs.Lays.n196 Tryz.prog laysValid_ren:={
 mixed:=by kernel_rfl
 f196:=Tryz.func91.trans (congrArg some (by kernel_rfl))
 f259:=Tryz.func166.trans (congrArg some (by kernel_rfl))
 t0:=Tryz.underlying0
 a0:=Tryz.isAgg0
 z0:=Tryz.sizeOf0
 v0:=Tryz.zeroValue0
 t3:=Tryz.underlying3
 a3:=Tryz.isAgg3
 z3:=Tryz.sizeOf3
 v3:=Tryz.zeroValue3
 t4:=Tryz.underlying4
 a4:=Tryz.isAgg4
 z4:=Tryz.sizeOf4
 v4:=Tryz.zeroValue4
 t5:=Tryz.underlying5
 a5:=Tryz.isAgg5
 z5:=Tryz.sizeOf5
 v5:=Tryz.zeroValue5
 t9:=Tryz.underlying9
 a9:=Tryz.isAgg9
 z9:=Tryz.sizeOf9
 v9:=Tryz.zeroValue9
 t12:=Tryz.underlying12
 a12:=Tryz.isAgg12
 z12:=Tryz.sizeOf12
 v12:=Tryz.zeroValue12
 t46:=Tryz.underlying249
 a46:=Tryz.isAgg249
 z46:=Tryz.sizeOf249
 v46:=Tryz.zeroValue249
 t53:=Tryz.underlying317
 a53:=Tryz.isAgg317
 z53:=Tryz.sizeOf317
 v53:=Tryz.zeroValue317
 t119:=Tryz.underlying273
 a119:=Tryz.isAgg273
 z119:=Tryz.sizeOf273
 t138:=Tryz.underlying275
 a138:=Tryz.isAgg275
 z138:=Tryz.sizeOf275
 v138:=Tryz.zeroValue275
 t139:=Tryz.underlying276
 a139:=Tryz.isAgg276
 z139:=Tryz.sizeOf276
 v139:=Tryz.zeroValue276
 g3:=by kernel_rfl
 g4:=by kernel_rfl }
theorem first_is:Zv.g3=(List.range 256).map fun (c:Nat)=>Zv.D.int .u8 (firstT c):=by kernel_rfl
theorem accept_is:Zv.g4=((List.range 16).map fun (i:Nat)=>[Zv.D.int .u8 (accLo i),Zv.D.int .u8 (accHi i)]).flatten:=by kernel_rfl
theorem tabs {M:Nat→Prop} {w:World} (hG:Zv.GRel ⟨Tryz.prog,Zv.GG⟩ M w):Utf8Tabs 3 4 w:=by
 have h2:=(hG (3,Zv.g3) (by simp [Zv.GG])).2.2
 have h3:=(hG (4,Zv.g4) (by simp [Zv.GG])).2.2
 refine ⟨fun c hc => ?_,fun i hi => ?_⟩
 ·obtain ⟨v,hv,hr⟩:=h2.get c (.int .u8 (firstT c)) (by rw [first_is,List.getElem?_map,List.getElem?_range hc]; rfl)
  simp only [Zv.VRel] at hr
  rw [hr,Nat.zero_add] at hv; exact hv
 ·have hg:Zv.g4[2*i]?=some (.int .u8 (accLo i))∧Zv.g4[2*i+1]?=some (.int .u8 (accHi i)):=by
   rw [accept_is]
   have:∀ i,i<16→(((List.range 16).map fun (i:Nat)=>[Zv.D.int .u8 (accLo i),Zv.D.int .u8 (accHi i)]).flatten)[2*i]?=some (.int .u8 (accLo i))∧(((List.range 16).map fun (i:Nat)=>[Zv.D.int .u8 (accLo i),Zv.D.int .u8 (accHi i)]).flatten)[2*i+1]?=some (.int .u8 (accHi i)):=fun i hi=>by
    match i,hi with
    | 0,_=>exact ⟨rfl,rfl⟩
    | 1,_=>exact ⟨rfl,rfl⟩
    | 2,_=>exact ⟨rfl,rfl⟩
    | 3,_=>exact ⟨rfl,rfl⟩
    | 4,_=>exact ⟨rfl,rfl⟩
    | 5,_=>exact ⟨rfl,rfl⟩
    | 6,_=>exact ⟨rfl,rfl⟩
    | 7,_=>exact ⟨rfl,rfl⟩
    | 8,_=>exact ⟨rfl,rfl⟩
    | 9,_=>exact ⟨rfl,rfl⟩
    | 10,_=>exact ⟨rfl,rfl⟩
    | 11,_=>exact ⟨rfl,rfl⟩
    | 12,_=>exact ⟨rfl,rfl⟩
    | 13,_=>exact ⟨rfl,rfl⟩
    | 14,_=>exact ⟨rfl,rfl⟩
    | 15,_=>exact ⟨rfl,rfl⟩
    | n+16,h=>omega
   exact this i hi
  obtain ⟨v,hv,hr⟩:=h3.get (2*i) _ hg.1
  obtain ⟨v',hv',hr'⟩:=h3.get (2*i+1) _ hg.2
  simp only [Zv.VRel] at hr hr'
  rw [hr,Nat.zero_add] at hv
  rw [hr',Nat.zero_add] at hv'
  exact ⟨hv,hv'⟩
theorem valid91 (M:Nat→Prop) (b:ByteArray) (w:World) (hs:b.size≤9223372036854775807) (hG:Zv.GRel ⟨Tryz.prog,Zv.GG⟩ M w) :
  Calls Tryz.prog 91 #[.string b] w fun e w'=>e = .returned (.bool (validD b.data.toList))∧Below w.heap.size w w':=
 Any.utf8_ValidString laysValid b w hs (tabs hG)
theorem spec91:Zv.SpOK ⟨Tryz.prog,Zv.GG⟩ 91 Zv.spValid:=Zv.valid_spec (by kernel_rfl) valid91
end Go.Proofs.YtoefcncofakjkaaGreatDoor
