/- slices.SortFunc at the sites of this program: sorted by the first number. Conditions: none. -/
import Derived.Shelf.SlSortCmp.WholeK
import Derived.Shelf.SlicesG.Cmp
import Derived.Shelf.Unicode.ValidAny
import Derived.Test.YtnpoohbeicakkaaGreatDoorZAO
set_option linter.unusedVariables false
set_option linter.unusedSimpArgs false
namespace Go.Proofs.YtnpoohbeicakkaaGreatDoor
open Go Go.Shelf Go.RowKit Go.Lib Go.Sort
def sortSites_ren:Go.Shelf.Ren:=⟨fun|6=>45|15=>94|14=>93|28=>142|29=>143|20=>134|21=>135|22=>136|23=>137|24=>138|25=>139|26=>140|27=>141|46=>171|47=>172|48=>173|49=>174|50=>175|57=>232|n=>n,fun|22=>37|24=>49|25=>98|3=>3|39=>154|0=>0|53=>203|55=>205|4=>4|46=>197|45=>196|50=>113|5=>5|9=>9|66=>238|70=>87|76=>269|77=>270|n=>n,fun|n=>n⟩
theorem sortSites:Go.Proofs.SlLaysF0.n6 Tryz.prog sortSites_ren:={
 mixed:=by kernel_rfl
 f6:=⟨Tryz.f45.name,by decide,Tryz.func45.trans (congrArg some (by kernel_rfl))⟩
 f14:=⟨Tryz.f93.name,by decide,Tryz.func93.trans (congrArg some (by kernel_rfl))⟩
 f15:=Tryz.func94.trans (congrArg some (by kernel_rfl))
 f20:=⟨Tryz.f134.name,by decide,Tryz.func134.trans (congrArg some (by kernel_rfl))⟩
 f21:=⟨Tryz.f135.name,by decide,Tryz.func135.trans (congrArg some (by kernel_rfl))⟩
 f22:=⟨Tryz.f136.name,by decide,Tryz.func136.trans (congrArg some (by kernel_rfl))⟩
 f23:=⟨Tryz.f137.name,by decide,Tryz.func137.trans (congrArg some (by kernel_rfl))⟩
 f24:=⟨Tryz.f138.name,by decide,Tryz.func138.trans (congrArg some (by kernel_rfl))⟩
 f25:=⟨Tryz.f139.name,by decide,Tryz.func139.trans (congrArg some (by kernel_rfl))⟩
 f26:=⟨Tryz.f140.name,by decide,Tryz.func140.trans (congrArg some (by kernel_rfl))⟩
 f27:=⟨Tryz.f141.name,by decide,Tryz.func141.trans (congrArg some (by kernel_rfl))⟩
 f28:=Tryz.func142.trans (congrArg some (by kernel_rfl))
 f29:=Tryz.func143.trans (congrArg some (by kernel_rfl))
 f46:=⟨Tryz.f171.name,by decide,Tryz.func171.trans (congrArg some (by kernel_rfl))⟩
 f47:=Tryz.func172.trans (congrArg some (by kernel_rfl))
 f48:=Tryz.func173.trans (congrArg some (by kernel_rfl))
 f49:=⟨Tryz.f174.name,by decide,Tryz.func174.trans (congrArg some (by kernel_rfl))⟩
 f50:=⟨Tryz.f175.name,by decide,Tryz.func175.trans (congrArg some (by kernel_rfl))⟩
 f57:=⟨Tryz.f232.name,by decide,Tryz.func232.trans (congrArg some (by kernel_rfl))⟩
 t0:=Tryz.underlying0
 a0:=Tryz.isAgg0
 z0:=Tryz.sizeOf0
 v0:=Tryz.zeroValue0
 t3:=Tryz.underlying3
 a3:=Tryz.isAgg3
 z3:=Tryz.sizeOf3
 v3:=Tryz.zeroValue3
 t4:=Tryz.underlying4
 a4:=Tryz.isAgg4
 z4:=Tryz.sizeOf4
 v4:=Tryz.zeroValue4
 t5:=Tryz.underlying5
 a5:=Tryz.isAgg5
 z5:=Tryz.sizeOf5
 v5:=Tryz.zeroValue5
 t9:=Tryz.underlying9
 a9:=Tryz.isAgg9
 z9:=Tryz.sizeOf9
 v9:=Tryz.zeroValue9
 t22:=Tryz.underlying37
 a22:=Tryz.isAgg37
 z22:=Tryz.sizeOf37
 v22:=Tryz.zeroValue37
 t25:=Tryz.underlying98
 a25:=Tryz.isAgg98
 z25:=Tryz.sizeOf98
 v25:=Tryz.zeroValue98
 t39:=Tryz.underlying154
 a39:=Tryz.isAgg154
 z39:=Tryz.sizeOf154
 v39:=Tryz.zeroValue154
 t45:=Tryz.underlying196
 a45:=Tryz.isAgg196
 z45:=Tryz.sizeOf196
 v45:=Tryz.zeroValue196
 t46:=Tryz.underlying197
 a46:=Tryz.isAgg197
 z46:=Tryz.sizeOf197
 v46:=Tryz.zeroValue197
 t50:=Tryz.underlying113
 a50:=Tryz.isAgg113
 z50:=Tryz.sizeOf113
 v50:=Tryz.zeroValue113
 t53:=Tryz.underlying203
 a53:=Tryz.isAgg203
 z53:=Tryz.sizeOf203
 v53:=Tryz.zeroValue203
 t55:=Tryz.underlying205
 a55:=Tryz.isAgg205
 z55:=Tryz.sizeOf205
 v55:=Tryz.zeroValue205
 t66:=Tryz.underlying238
 a66:=Tryz.isAgg238
 z66:=Tryz.sizeOf238
 v66:=Tryz.zeroValue238
 t70:=Tryz.underlying87
 a70:=Tryz.isAgg87
 z70:=Tryz.sizeOf87
 v70:=Tryz.zeroValue87
 t76:=Tryz.underlying269
 a76:=Tryz.isAgg269
 z76:=Tryz.sizeOf269
 v76:=Tryz.zeroValue269
 t77:=Tryz.underlying270
 a77:=Tryz.isAgg270
 z77:=Tryz.sizeOf270
 v77:=Tryz.zeroValue270 }
def cmpInt_ren:Go.Shelf.Ren:=⟨fun|5=>95|7=>144|n=>n,fun|22=>3|3=>3|4=>4|n=>n,fun|n=>n⟩
theorem cmpInt:Go.Proofs.SlLaysC2.n5 Tryz.prog cmpInt_ren:={
 mixed:=by kernel_rfl
 f5:=⟨Tryz.f95.name,by decide,Tryz.func95.trans (congrArg some (by kernel_rfl))⟩
 f7:=⟨Tryz.f144.name,by decide,Tryz.func144.trans (congrArg some (by kernel_rfl))⟩
 t3:=Tryz.underlying3
 a3:=Tryz.isAgg3
 z3:=Tryz.sizeOf3
 v3:=Tryz.zeroValue3
 t4:=Tryz.underlying4
 a4:=Tryz.isAgg4
 z4:=Tryz.sizeOf4
 v4:=Tryz.zeroValue4
 t22:=Tryz.underlying3
 a22:=Tryz.isAgg3
 z22:=Tryz.sizeOf3
 v22:=Tryz.zeroValue3 }
theorem closure46(x y:Int×Int)(W:World):Calls Tryz.prog 46 #[.agg #[.int .i64 x.1,.int .i64 x.2],.agg #[.int .i64 y.1,.int .i64 y.2]] W fun e w'=>e = .returned (.int .i64 (Lib.compareInt x.1 y.1))∧∃q os',w'=grow (W.drewN q) os':=by
 have Gs:=fun W'=>AnyG.cmp_Compare_int cmpInt x.1 y.1 W'
 change ∀W',Calls Tryz.prog 95 _ _ _ at Gs
 generalize Lib.compareInt x.1 y.1=r at Gs ⊢
 go_enter Tryz.func46,Tryz.ntmps46
 go_wp2_with (go_at_call 95;refine(Gs _).mono ?_;rintro e w' ⟨rfl,rfl⟩)
 go_ret
 exact⟨rfl,0,_,by rw[alloc_eq_grow,alloc_eq_grow,grow_grow];rfl⟩
theorem cmpLays46(blk off size:Nat)(w:World):CmpLays Tryz.prog 46 #[] Zv.nX 2 (fun x y=>Lib.compareInt x.1 y.1) blk off size w:=
 fun _ _ _ _ x y=>closure46 x y _
theorem ltLo(x y:Int×Int):ltOf (fun x y:Int×Int=>Lib.compareInt x.1 y.1) x y=decide (x.1<y.1):=by
 unfold ltOf Lib.compareInt;by_cases h1:x.1<y.1
 ·simp[h1]
 ·by_cases h2:y.1<x.1<;>simp[h1,h2]
theorem swoLo:SWO (ltOf fun x y:Int×Int=>Lib.compareInt x.1 y.1) where
 irrefl x:=by rw[ltLo];simp
 trans x y z h1 h2:=by rw[ltLo]at *;simp at *;omega
 ntrans x y z h1 h2:=by rw[ltLo]at *;simp at *;omega
theorem sort45(l:List (Int×Int))(b off cap:Nat)(w:World)(hH:HoldsK Zv.nX 2 w b off l.toArray)(hb:b<w.heap.size)(hl:l.length<4611686018427387904):
  Calls Tryz.prog 45 #[.slice (some ⟨b,off,none⟩) l.length cap,.func (.func 46) #[] #[]] w fun e w'=>e = .returned (.tuple #[])∧∃(d:List (Int×Int)) (n:Nat) (os:Array Obj),d.Perm l∧(d.Pairwise fun a b=>¬b.1<a.1)∧w'=Go.Proofs.sortWorldK Zv.nX 2 w b off n d.toArray os:=by
 have eg:∀args w,(callFunc 46 args).run Tryz.prog w = .ok (.enter 46 args) w:=enters_of Tryz.func46 (by kernel_rfl) rfl
 have Gs:=AnyQ.slices_SortFunc sortSites 2 Tryz.isAgg49 Tryz.sizeOf49 Zv.nX (fun _=>rfl) (fun x v hv=>by simp[Zv.nX]at hv;rcases hv with rfl|rfl<;>rfl) (fun x y=>Lib.compareInt x.1 y.1) swoLo 46 #[] b off cap l.toArray w eg (cmpLays46 b off l.toArray.size w) hH hb hl
 change Calls Tryz.prog 45 _ _ _ at Gs;refine Gs.mono ?_;rintro e w' ⟨rfl,d',n,os,hp,hs,rfl⟩;refine⟨rfl,d'.toList,n,os,?_,?_,by simp⟩
 ·have Ae:d'.size=l.length:=by have:=hp.1;simpa using this
  have h:=hp.2.2;rw[show l.toArray.size=d'.size by rw[Ae,List.size_toArray],Array.extract_size]at h
  rw[show d'.size=l.toArray.size by rw[Ae,List.size_toArray],Array.extract_size]at h
  simpa using h
 ·have Ae:d'.size=l.length:=by have:=hp.1;simpa using this
  rw[List.pairwise_iff_getElem];intro i j hi hj Sg;rw[Array.length_toList]at hi hj;have h:=hs i j (Nat.zero_le _) Sg (by rw[List.size_toArray];omega)
  rw[ltLo,decide_eq_false_iff_not,getElem!_pos d' j hj,getElem!_pos d' i hi]at h;simpa using h
end Go.Proofs.YtnpoohbeicakkaaGreatDoor
namespace Go.Proofs.YtnpoohbeicakkaaGreatDoor
open Go Go.Shelf Go.RowKit Go.Lib
def laysValid_ren:Go.Shelf.Ren:=⟨fun|196=>158|259=>209|n=>n,fun|9=>9|4=>4|3=>3|5=>5|12=>12|119=>255|0=>0|46=>154|139=>258|138=>257|53=>205|n=>n,fun|3=>2|4=>3|n=>n⟩
theorem laysValid:Go.Proofs.Lays.n196 Tryz.prog laysValid_ren:={
 mixed:=by kernel_rfl
 f196:=Tryz.func158.trans (congrArg some (by kernel_rfl))
 f259:=Tryz.func209.trans (congrArg some (by kernel_rfl))
 t0:=Tryz.underlying0
 a0:=Tryz.isAgg0
 z0:=Tryz.sizeOf0
 v0:=Tryz.zeroValue0
 t3:=Tryz.underlying3
 a3:=Tryz.isAgg3
 z3:=Tryz.sizeOf3
 v3:=Tryz.zeroValue3
 t4:=Tryz.underlying4
 a4:=Tryz.isAgg4
 z4:=Tryz.sizeOf4
 v4:=Tryz.zeroValue4
 t5:=Tryz.underlying5
 a5:=Tryz.isAgg5
 z5:=Tryz.sizeOf5
 v5:=Tryz.zeroValue5
 t9:=Tryz.underlying9
 a9:=Tryz.isAgg9
 z9:=Tryz.sizeOf9
 v9:=Tryz.zeroValue9
 t12:=Tryz.underlying12
 a12:=Tryz.isAgg12
 z12:=Tryz.sizeOf12
 v12:=Tryz.zeroValue12
 t46:=Tryz.underlying154
 a46:=Tryz.isAgg154
 z46:=Tryz.sizeOf154
 v46:=Tryz.zeroValue154
 t53:=Tryz.underlying205
 a53:=Tryz.isAgg205
 z53:=Tryz.sizeOf205
 v53:=Tryz.zeroValue205
 t119:=Tryz.underlying255
 a119:=Tryz.isAgg255
 z119:=Tryz.sizeOf255
 t138:=Tryz.underlying257
 a138:=Tryz.isAgg257
 z138:=Tryz.sizeOf257
 v138:=Tryz.zeroValue257
 t139:=Tryz.underlying258
 a139:=Tryz.isAgg258
 z139:=Tryz.sizeOf258
 v139:=Tryz.zeroValue258
 g3:=by kernel_rfl
 g4:=by kernel_rfl }
theorem first_is:Zv.g2=(List.range 256).map fun(c:Nat)=>Zv.D.int .u8 (firstT c):=by kernel_rfl
theorem accept_is:Zv.g3=((List.range 16).map fun(i:Nat)=>[Zv.D.int .u8 (accLo i),Zv.D.int .u8 (accHi i)]).flatten:=by kernel_rfl
theorem tabs{M:Nat→Prop}{w:World}(hG:Zv.GRel ⟨Tryz.prog,Zv.GG⟩ M w):Utf8Tabs 2 3 w:=by
 have h2:=(hG (2,Zv.g2) (by simp[Zv.GG])).2.2
 have h3:=(hG (3,Zv.g3) (by simp[Zv.GG])).2.2
 refine⟨fun c hc=>?_,fun i hi=>?_⟩
 ·obtain⟨v,hv,hr⟩:=h2.get c (.int .u8 (firstT c)) (by rw[first_is,List.getElem?_map,List.getElem?_range hc];rfl)
  simp only[Zv.aY]at hr;rw[hr,Nat.zero_add]at hv;exact hv
 ·have hg:Zv.g3[2*i]?=some (.int .u8 (accLo i))∧Zv.g3[2*i+1]?=some (.int .u8 (accHi i)):=by
   rw[accept_is];have:∀i,i<16→(((List.range 16).map fun(i:Nat)=>[Zv.D.int .u8 (accLo i),Zv.D.int .u8 (accHi i)]).flatten)[2*i]?=some (.int .u8 (accLo i))∧(((List.range 16).map fun(i:Nat)=>[Zv.D.int .u8 (accLo i),Zv.D.int .u8 (accHi i)]).flatten)[2*i+1]?=some (.int .u8 (accHi i)):=fun i hi=>by
    match i,hi with
    | 0,_=>exact⟨rfl,rfl⟩
    | 1,_=>exact⟨rfl,rfl⟩
    | 2,_=>exact⟨rfl,rfl⟩
    | 3,_=>exact⟨rfl,rfl⟩
    | 4,_=>exact⟨rfl,rfl⟩
    | 5,_=>exact⟨rfl,rfl⟩
    | 6,_=>exact⟨rfl,rfl⟩
    | 7,_=>exact⟨rfl,rfl⟩
    | 8,_=>exact⟨rfl,rfl⟩
    | 9,_=>exact⟨rfl,rfl⟩
    | 10,_=>exact⟨rfl,rfl⟩
    | 11,_=>exact⟨rfl,rfl⟩
    | 12,_=>exact⟨rfl,rfl⟩
    | 13,_=>exact⟨rfl,rfl⟩
    | 14,_=>exact⟨rfl,rfl⟩
    | 15,_=>exact⟨rfl,rfl⟩
    | n+16,h=>omega
   exact this i hi
  obtain⟨v,hv,hr⟩:=h3.get (2*i) _ hg.1;obtain⟨v',Cu,Bk⟩:=h3.get (2*i+1) _ hg.2;simp only[Zv.aY]at hr Bk;rw[hr,Nat.zero_add]at hv;rw[Bk,Nat.zero_add]at Cu;exact⟨hv,Cu⟩
theorem valid158(M:Nat→Prop)(b:ByteArray)(w:World)(hs:b.size≤9223372036854775807)(hG:Zv.GRel ⟨Tryz.prog,Zv.GG⟩ M w):
  Calls Tryz.prog 158 #[.string b] w fun e w'=>e = .returned (.bool (validD b.data.toList))∧Below w.heap.size w w':=
 Any.utf8_ValidString laysValid b w hs (tabs hG)
theorem spec158:Zv.SpOK ⟨Tryz.prog,Zv.GG⟩ 158 Zv.pI:=Zv.valid_spec (by kernel_rfl) valid158
end Go.Proofs.YtnpoohbeicakkaaGreatDoor
