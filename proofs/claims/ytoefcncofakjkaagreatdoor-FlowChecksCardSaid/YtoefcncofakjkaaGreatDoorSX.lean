/- errors.As at the program's one target: what the library's text does. Conditions: none. -/
import Derived.Test.YtoefcncofakjkaaGreatDoorCA
import Derived.Test.YtoefcncofakjkaaGreatDoorST
import Derived.Test.YtoefcncofakjkaaGreatDoorCI
import Derived.WalkKit
import Derived.LaidEql
import Derived.LaidHandle
import Derived.Stop.Asserts
import Derived.RowKitTokens
set_option linter.unusedVariables false
set_option linter.unusedSimpArgs false
set_option maxRecDepth 100000
namespace Go.Proofs.YtoefcncofakjkaaGreatDoor
open Go Zv Go.RowKit Go.Extern.Stop Go.Stop Go.Extern
namespace As
theorem as_nil (t:Value) (w:World) :
  Calls Tryz.prog 27 #[.nilIface,t] w fun e w'=>e = .returned (.bool false)∧w'=w:=by
 go_enter Tryz.func27,Tryz.ntmps27
 go_wp2
 go_ret
 exact ⟨rfl,rfl⟩
theorem valueOfP (t:Addr) (w:World):(ReflectliteValue.unpack (.iface 92 (.pointer (some t)))).run Tryz.prog w
  = .ok (.agg #[.pointer (some ⟨6,92,none⟩),.pointer (some ⟨w.heap.size,0,none⟩),.int .u64 150]) (w.alloc (.cells #[.pointer (some t)] 92)):=by kernel_rfl
theorem typeP (a:Addr) (w:World):(ReflectliteValue.methodAny (ReflectliteValue.valueError "reflectlite.Value.Type" 0) (fun t _ _ _=>ReflectliteType.toType t) #[.agg #[.pointer (some ⟨6,92,none⟩),.pointer (some a),.int .u64 150]]).run Tryz.prog w
  = .ok (.iface 194 (.agg #[.pointer (some ⟨6,92,none⟩)])) w:=by kernel_rfl
theorem methodKind (h:Value) (w:World):(Go.method 576 194 (.agg #[h]) "Kind").run Tryz.prog w = .ok (378,h) w:=by kernel_rfl
theorem kindP (w:World):((ReflectliteType.abiMethod fun t=>(fun a:Nat=>Value.int IntKind.u8 (a:Int)) <$> Rtype.kind t) #[.pointer (some ⟨6,92,none⟩)]).run Tryz.prog w = .ok (.int .u8 22) w:=by kernel_rfl
theorem kindB (w:World):((ReflectliteType.abiMethod fun t=>(fun a:Nat=>Value.int IntKind.u8 (a:Int)) <$> Rtype.kind t) #[.pointer (some ⟨6,90,none⟩)]).run Tryz.prog w = .ok (.int .u8 25) w:=by kernel_rfl
theorem rlm (z:Sem Value) (f:TypeId→Addr→Nat→Nat→Sem Value) (v:Value) :
  ReflectliteValue.method z f #[v]=(do match ←ReflectliteValue.parts v with|none=>z|some (t,a,fl)=>f t a fl (fl % 32)):=rfl
theorem partsP (a:Addr) (w:World):(ReflectliteValue.parts (.agg #[.pointer (some ⟨6,92,none⟩),.pointer (some a),.int .u64 150])).run Tryz.prog w = .ok (some (92,a,150)) w:=by kernel_rfl
theorem undP:Tryz.prog.underlying 92=some (.pointer 90):=by kernel_rfl
theorem isNilP (a p:Addr) (W:World) (ha:W.cell? a=some (.pointer (some p))) :
  (ReflectliteValue.method (ReflectliteValue.valueError "reflectlite.Value.IsNil" 0) ReflectliteValue.isNil #[.agg #[.pointer (some ⟨6,92,none⟩),.pointer (some a),.int .u64 150]]).run Tryz.prog W = .ok (.bool false) W:=by
 rw [rlm]
 simp only [Sem.run_bind,partsP,Result.andThen]
 simp [ReflectliteValue.isNil,loadVar,isAgg,underlying,undP,ha,Result.andThen]
theorem methodElem (h:Value) (w:World):(Go.method 576 194 (.agg #[h]) "Elem").run Tryz.prog w = .ok (388,.agg #[h]) w:=by kernel_rfl
theorem methodImplements (h:Value) (w:World):(Go.method 576 194 (.agg #[h]) "Implements").run Tryz.prog w = .ok (389,.agg #[h]) w:=by kernel_rfl
theorem methodAssignableTo (h:Value) (w:World):(Go.method 576 194 (.agg #[h]) "AssignableTo").run Tryz.prog w = .ok (386,.agg #[h]) w:=by kernel_rfl
theorem elemP (w:World):(ReflectliteType.method ReflectliteType.elem #[.agg #[.pointer (some ⟨6,92,none⟩)]]).run Tryz.prog w = .ok (.iface 194 (.agg #[.pointer (some ⟨6,90,none⟩)])) w:=by kernel_rfl
theorem implementsB (w:World):(ReflectliteType.relation "Implements" ReflectliteType.implements_ #[.agg #[.pointer (some ⟨6,90,none⟩)],.iface 194 (.agg #[.pointer (some ⟨6,86,none⟩)])]).run Tryz.prog w = .ok (.bool true) w:=by kernel_rfl
theorem typeOfB (v:Value) (w:World):(ReflectliteType.typeOf #[.iface 90 v]).run Tryz.prog w = .ok (.iface 194 (.agg #[.pointer (some ⟨6,90,none⟩)])) w:=by kernel_rfl
theorem assignableB (w:World):(ReflectliteType.relation "AssignableTo" ReflectliteType.assignableTo #[.agg #[.pointer (some ⟨6,90,none⟩)],.iface 194 (.agg #[.pointer (some ⟨6,90,none⟩)])]).run Tryz.prog w = .ok (.bool true) w:=by kernel_rfl
theorem valueOfB (k1 k2:IntKind) (n1 n2:Int) (w:World):(ReflectliteValue.unpack (.iface 90 (.agg #[.int k1 n1,.int k2 n2]))).run Tryz.prog w
  = .ok (.agg #[.pointer (some ⟨6,90,none⟩),.pointer (some ⟨w.heap.size,0,none⟩),.int .u64 153]) (w.alloc (.cells #[.int k1 n1,.int k2 n2] 90)):=by kernel_rfl
theorem elemOfP (w:World):(Rtype.elem? 92).run Tryz.prog w = .ok (some 90) w:=by kernel_rfl
theorem mkB (p:Addr) (w:World):(ReflectliteValue.mk 90 p ReflectliteValue.flagAddr).run Tryz.prog w = .ok (.agg #[.pointer (some ⟨6,90,none⟩),.pointer (some p),.int .u64 409]) w:=by kernel_rfl
theorem elemVP (a p:Addr) (W:World) (ha:W.cell? a=some (.pointer (some p))) :
  (ReflectliteValue.method (ReflectliteValue.valueError "reflectlite.Value.Elem" 0) ReflectliteValue.elem #[.agg #[.pointer (some ⟨6,92,none⟩),.pointer (some a),.int .u64 150]]).run Tryz.prog W
   = .ok (.agg #[.pointer (some ⟨6,90,none⟩),.pointer (some p),.int .u64 409]) W:=by
 rw [rlm]
 simp only [Sem.run_bind,partsP,Result.andThen]
 simp [ReflectliteValue.elem,loadVar,isAgg,underlying,undP,ha,Result.andThen,elemOfP,mkB]
theorem rls (v x:Value):ReflectliteValue.set #[v,x]=(do
  let (some (dst,a,fl),some (src,b,_)):=(←ReflectliteValue.parts v,←ReflectliteValue.parts x)
   | unsupported (.noEntry "extern/(internal/reflectlite.Value).Set.zeroValue")
  if fl / ReflectliteValue.flagAddr % 2==0 then unsupported (.noEntry "extern/(internal/reflectlite.Value).Set.unaddressable")
  let val ←loadVar src b
  if ←Rtype.directlyAssignable dst src then storeVar dst a val
  else if ←Rtype.implements dst src then
   if (←Rtype.kind src)==20 then
    match val with
    | .nilIface=>unsupported (.noEntry "extern/reflectlite: a nil value of one interface type handed on as a value of another")
    | _=>storeVar dst a val
   else storeVar dst a (.iface src val)
  else panicString ("reflectlite.Set: value of type " ++ (←Rtype.spelt src) ++ " is not assignable to type " ++ (←Rtype.spelt dst))
  pure (.tuple #[])):=rfl
theorem partsBa (a:Addr) (w:World):(ReflectliteValue.parts (.agg #[.pointer (some ⟨6,90,none⟩),.pointer (some a),.int .u64 409])).run Tryz.prog w = .ok (some (90,a,409)) w:=by kernel_rfl
theorem partsB (a:Addr) (w:World):(ReflectliteValue.parts (.agg #[.pointer (some ⟨6,90,none⟩),.pointer (some a),.int .u64 153])).run Tryz.prog w = .ok (some (90,a,153)) w:=by kernel_rfl
theorem directB (w:World):(Rtype.directlyAssignable 90 90).run Tryz.prog w = .ok true w:=by kernel_rfl
theorem aggB:isAggT Tryz.prog 90=some true:=by kernel_rfl
theorem szB:szOf Tryz.prog 90=some 2:=by kernel_rfl
theorem setB (ta:Addr) (bb:Nat) (k1 k2:IntKind) (n1 n2:Int) (W W':World) (hb:W.cell? ⟨bb,0,none⟩=some (.int k1 n1)) (hb1:W.cell? ⟨bb,1,none⟩=some (.int k2 n2)) (hs:(storeCells ta [.int k1 n1,.int k2 n2]).run Tryz.prog W = .ok () W') :
  (ReflectliteValue.set #[.agg #[.pointer (some ⟨6,90,none⟩),.pointer (some ta),.int .u64 409],.agg #[.pointer (some ⟨6,90,none⟩),.pointer (some ⟨bb,0,none⟩),.int .u64 153]]).run Tryz.prog W
   = .ok (.tuple #[]) W':=by
 rw [rls]
 simp only [Sem.run_bind,partsBa,partsB,Result.andThen]
 have hload:(loadVar 90 ⟨bb,0,none⟩).run Tryz.prog W = .ok (.agg #[.int k1 n1,.int k2 n2]) W:=by
  simp [loadVar,run_isAgg aggB,run_sizeOf' szB,loadCells,loadCellsFrom,Addr.add_lit,hb,hb1,Result.andThen]
 have hst:(storeVar 90 ta (.agg #[.int k1 n1,.int k2 n2])).run Tryz.prog W = .ok () W':=by
  simpa [storeVar,Value.cells,run_isAgg aggB,run_sizeOf' szB,Result.andThen] using hs
 simp [ReflectliteValue.flagAddr,hload,directB,hst,Result.andThen]
set_option maxHeartbeats 4000000 in
theorem as_hit (k1 k2:IntKind) (n1 n2:Int) (t:Addr) (w w':World) (htl:t.block<w.heap.size) (hg:w.cell? ⟨0,0,none⟩=some (.iface 194 (.agg #[.pointer (some ⟨6,86,none⟩)])))
  (hst:(storeCells t [.int k1 n1,.int k2 n2]).run Tryz.prog (asWorld w t #[.int k1 n1,.int k2 n2] 90 92 131 6 150) = .ok () w') :
  Calls Tryz.prog 27 #[.iface 90 (.agg #[.int k1 n1,.int k2 n2]),.iface 92 (.pointer (some t))] w fun ev w''=>ev = .returned (.bool true)∧w''=w':=by
 have h6:=@run_callFunc_extern Tryz.prog 47 _ (fun args=>ReflectliteValue.unpack (args.getD 0 (.tuple #[]))) Tryz.func47 (by kernel_rfl) (by kernel_rfl) (by kernel_rfl) (by kernel_rfl)
 have h7:=@run_callFunc_extern Tryz.prog 48 _ (ReflectliteValue.methodAny (ReflectliteValue.valueError "reflectlite.Value.Type" 0) (fun t _ _ _=>ReflectliteType.toType t)) Tryz.func48 (by kernel_rfl) (by kernel_rfl) (by kernel_rfl) (by kernel_rfl)
 have h8:=@run_callFunc_extern Tryz.prog 49 _ (ReflectliteValue.method (ReflectliteValue.valueError "reflectlite.Value.IsNil" 0) ReflectliteValue.isNil) Tryz.func49 (by kernel_rfl) (by kernel_rfl) (by kernel_rfl) (by kernel_rfl)
 have h27:=@run_callFunc_extern Tryz.prog 378 _ (ReflectliteType.abiMethod fun t=>do pure (.int .u8 (←Rtype.kind t))) Tryz.func378 (by kernel_rfl) (by kernel_rfl) (by kernel_rfl) (by kernel_rfl)
 have h37:=@run_callFunc_extern Tryz.prog 388 _ (ReflectliteType.method ReflectliteType.elem) Tryz.func388 (by kernel_rfl) (by kernel_rfl) (by kernel_rfl) (by kernel_rfl)
 have h38:=@run_callFunc_extern Tryz.prog 389 _ (ReflectliteType.relation "Implements" ReflectliteType.implements_) Tryz.func389 (by kernel_rfl) (by kernel_rfl) (by kernel_rfl) (by kernel_rfl)
 have h10:=@run_callFunc_extern Tryz.prog 83 _ ReflectliteType.typeOf Tryz.func83 (by kernel_rfl) (by kernel_rfl) (by kernel_rfl) (by kernel_rfl)
 have h35:=@run_callFunc_extern Tryz.prog 386 _ (ReflectliteType.relation "AssignableTo" ReflectliteType.assignableTo) Tryz.func386 (by kernel_rfl) (by kernel_rfl) (by kernel_rfl) (by kernel_rfl)
 have h11:=@run_callFunc_extern Tryz.prog 84 _ (ReflectliteValue.method (ReflectliteValue.valueError "reflectlite.Value.Elem" 0) ReflectliteValue.elem) Tryz.func84 (by kernel_rfl) (by kernel_rfl) (by kernel_rfl) (by kernel_rfl)
 have h12:=@run_callFunc_extern Tryz.prog 85 _ ReflectliteValue.set Tryz.func85 (by kernel_rfl) (by kernel_rfl) (by kernel_rfl) (by kernel_rfl)
 have tO:=typeOfB
 have mA:=methodAssignableTo
 have a25:=assignableB
 have v25:=valueOfB k1 k2 n1 n2
 have f6:=valueOfP
 have f7:=typeP
 have mK:=methodKind
 have mE:=methodElem
 have mI:=methodImplements
 have k27:=kindP
 have k25:=kindB
 have e27:=elemP
 have i25:=implementsB
 have n8:=isNilP ⟨w.heap.size,0,none⟩ t ((w.alloc (.cells #[.pointer (some t)] 92)).alloc (.cells #[.pointer (some ⟨6,92,none⟩),.pointer (some ⟨w.heap.size,0,none⟩),.int .u64 150] 131)) (by simp)
 have hlt:0<w.heap.size:=by
  rcases Nat.lt_or_ge 0 w.heap.size with h|h
  ·exact h
  ·simp [World.cell?,Array.getElem?_eq_none h] at hg
 have hg2:((w.alloc (.cells #[.pointer (some t)] 92)).alloc (.cells #[.pointer (some ⟨6,92,none⟩),.pointer (some ⟨w.heap.size,0,none⟩),.int .u64 150] 131)).cell? ⟨0,0,none⟩=some (.iface 194 (.agg #[.pointer (some ⟨6,86,none⟩)])):=by
  rw [World.cell?_alloc_lt _ _ ⟨0,0,none⟩ (by first|(simp; done)|(simp; omega)),World.cell?_alloc_lt _ _ ⟨0,0,none⟩ hlt]; exact hg
 have el:=elemVP ⟨w.heap.size,0,none⟩ t (((w.alloc (.cells #[.pointer (some t)] 92)).alloc (.cells #[.pointer (some ⟨6,92,none⟩),.pointer (some ⟨w.heap.size,0,none⟩),.int .u64 150] 131)).alloc (.cells #[.pointer (some ⟨6,92,none⟩),.pointer (some ⟨w.heap.size,0,none⟩),.int .u64 150] 131)) (by rw [World.cell?_alloc_lt _ _ ⟨w.heap.size,0,none⟩ (by simp; omega)]; simp)
 have st:=setB t (w.heap.size+1+1+1) k1 k2 n1 n2 (asWorld w t #[.int k1 n1,.int k2 n2] 90 92 131 6 150) w'
  (by unfold asWorld; rw [World.cell?_alloc_at _ _ _ _ (by simp)]; rfl)
  (by unfold asWorld; rw [World.cell?_alloc_at _ _ _ _ (by simp)]; rfl) hst
 unfold asWorld at st
 go_enter Tryz.func27,Tryz.ntmps27
 go_wp2
 refine wp_loop_rounds 1 ?_
 rw [rounds_succ]
 go_wp2
 go_ret
 exact ⟨rfl,rfl⟩
end As
theorem asOK:SpOK TE 27 (spAs 90 92):=
 show SpOK ⟨Tryz.prog,GG⟩ 27 (spAs 90 92) from as_spec (E:=⟨Tryz.prog,GG⟩) (R:=194) (eT:=86) (nG:=6) (g:=0) (VT:=131) (fl:=150) (by kernel_rfl) (by simp [GG,g0]) As.as_nil As.as_hit
noncomputable def XA:List (Nat × (List D→St→Nat→FR)):=[(27,spAs 90 92)]
theorem xx:lAll (SpOK TE) id XA:=⟨asOK,trivial⟩
end Go.Proofs.YtoefcncofakjkaaGreatDoor
