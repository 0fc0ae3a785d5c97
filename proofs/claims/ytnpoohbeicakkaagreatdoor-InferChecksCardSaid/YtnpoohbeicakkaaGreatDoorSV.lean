/- utf8.ValidString at this program. Conditions: none. -/
import Derived.Shelf.Unicode.ValidAny
import Derived.Test.YtnpoohbeicakkaaGreatDoorTA
import Derived.Test.YtnpoohbeicakkaaGreatDoorProg
set_option linter.unusedVariables false
set_option linter.unusedSimpArgs false
namespace Go.Proofs.YtnpoohbeicakkaaGreatDoor
open Go Go.Shelf Go.RowKit Go.Lib
def laysValid_ren:Go.Shelf.Ren:=⟨fun|196=>158|259=>209|n=>n,fun|9=>9|4=>4|3=>3|5=>5|12=>12|119=>255|0=>0|46=>154|139=>258|138=>257|53=>205|n=>n,fun|3=>2|4=>3|n=>n⟩
theorem laysValid:Go.Proofs.Lays.n196 Tryz.prog laysValid_ren:={
 mixed:=by kernel_rfl
 f196:=Tryz.func158.trans (congrArg some (by kernel_rfl))
 f259:=Tryz.func209.trans (congrArg some (by kernel_rfl))
 t0:=Tryz.underlying0
 a0:=Tryz.isAgg0
 z0:=Tryz.sizeOf0
 v0:=Tryz.zeroValue0
 t3:=Tryz.underlying3
 a3:=Tryz.isAgg3
 z3:=Tryz.sizeOf3
 v3:=Tryz.zeroValue3
 t4:=Tryz.underlying4
 a4:=Tryz.isAgg4
 z4:=Tryz.sizeOf4
 v4:=Tryz.zeroValue4
 t5:=Tryz.underlying5
 a5:=Tryz.isAgg5
 z5:=Tryz.sizeOf5
 v5:=Tryz.zeroValue5
 t9:=Tryz.underlying9
 a9:=Tryz.isAgg9
 z9:=Tryz.sizeOf9
 v9:=Tryz.zeroValue9
 t12:=Tryz.underlying12
 a12:=Tryz.isAgg12
 z12:=Tryz.sizeOf12
 v12:=Tryz.zeroValue12
 t46:=Tryz.underlying154
 a46:=Tryz.isAgg154
 z46:=Tryz.sizeOf154
 v46:=Tryz.zeroValue154
 t53:=Tryz.underlying205
 a53:=Tryz.isAgg205
 z53:=Tryz.sizeOf205
 v53:=Tryz.zeroValue205
 t119:=Tryz.underlying255
 a119:=Tryz.isAgg255
 z119:=Tryz.sizeOf255
 t138:=Tryz.underlying257
 a138:=Tryz.isAgg257
 z138:=Tryz.sizeOf257
 v138:=Tryz.zeroValue257
 t139:=Tryz.underlying258
 a139:=Tryz.isAgg258
 z139:=Tryz.sizeOf258
 v139:=Tryz.zeroValue258
 g3:=by kernel_rfl
 g4:=by kernel_rfl }
theorem first_is:Zv.g2=(List.range 256).map fun (c:Nat)=>Zv.D.int .u8 (firstT c):=by kernel_rfl
theorem accept_is:Zv.g3=((List.range 16).map fun (i:Nat)=>[Zv.D.int .u8 (accLo i),Zv.D.int .u8 (accHi i)]).flatten:=by kernel_rfl
theorem tabs {M:Nat→Prop} {w:World} (hG:Zv.GRel ⟨Tryz.prog,Zv.GG⟩ M w):Utf8Tabs 2 3 w:=by
 have h2:=(hG (2,Zv.g2) (by simp [Zv.GG])).2.2
 have h3:=(hG (3,Zv.g3) (by simp [Zv.GG])).2.2
 refine ⟨fun c hc => ?_,fun i hi => ?_⟩
 ·obtain ⟨v,hv,hr⟩:=h2.get c (.int .u8 (firstT c)) (by rw [first_is,List.getElem?_map,List.getElem?_range hc]; rfl)
  simp only [Zv.VRel] at hr
  rw [hr,Nat.zero_add] at hv; exact hv
 ·have hg:Zv.g3[2*i]?=some (.int .u8 (accLo i))∧Zv.g3[2*i+1]?=some (.int .u8 (accHi i)):=by
   rw [accept_is]
   have:∀ i,i<16→(((List.range 16).map fun (i:Nat)=>[Zv.D.int .u8 (accLo i),Zv.D.int .u8 (accHi i)]).flatten)[2*i]?=some (.int .u8 (accLo i))∧(((List.range 16).map fun (i:Nat)=>[Zv.D.int .u8 (accLo i),Zv.D.int .u8 (accHi i)]).flatten)[2*i+1]?=some (.int .u8 (accHi i)):=fun i hi=>by
    match i,hi with
    | 0,_=>exact ⟨rfl,rfl⟩
    | 1,_=>exact ⟨rfl,rfl⟩
    | 2,_=>exact ⟨rfl,rfl⟩
    | 3,_=>exact ⟨rfl,rfl⟩
    | 4,_=>exact ⟨rfl,rfl⟩
    | 5,_=>exact ⟨rfl,rfl⟩
    | 6,_=>exact ⟨rfl,rfl⟩
    | 7,_=>exact ⟨rfl,rfl⟩
    | 8,_=>exact ⟨rfl,rfl⟩
    | 9,_=>exact ⟨rfl,rfl⟩
    | 10,_=>exact ⟨rfl,rfl⟩
    | 11,_=>exact ⟨rfl,rfl⟩
    | 12,_=>exact ⟨rfl,rfl⟩
    | 13,_=>exact ⟨rfl,rfl⟩
    | 14,_=>exact ⟨rfl,rfl⟩
    | 15,_=>exact ⟨rfl,rfl⟩
    | n+16,h=>omega
   exact this i hi
  obtain ⟨v,hv,hr⟩:=h3.get (2*i) _ hg.1
  obtain ⟨v',hv',hr'⟩:=h3.get (2*i+1) _ hg.2
  simp only [Zv.VRel] at hr hr'
  rw [hr,Nat.zero_add] at hv
  rw [hr',Nat.zero_add] at hv'
  exact ⟨hv,hv'⟩
theorem valid158 (M:Nat→Prop) (b:ByteArray) (w:World) (hs:b.size≤9223372036854775807) (hG:Zv.GRel ⟨Tryz.prog,Zv.GG⟩ M w) :
  Calls Tryz.prog 158 #[.string b] w fun e w'=>e = .returned (.bool (validD b.data.toList))∧Below w.heap.size w w':=
 Any.utf8_ValidString laysValid b w hs (tabs hG)
theorem spec158:Zv.SpOK ⟨Tryz.prog,Zv.GG⟩ 158 Zv.spValid:=Zv.valid_spec (by kernel_rfl) valid158
end Go.Proofs.YtnpoohbeicakkaaGreatDoor
