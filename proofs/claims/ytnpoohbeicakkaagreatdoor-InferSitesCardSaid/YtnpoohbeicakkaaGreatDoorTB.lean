/- The law's functions come to their abstract code. Conditions: none. -/
import Derived.Test.YtnpoohbeicakkaaGreatDoorTA
import Derived.Test.YtnpoohbeicakkaaGreatDoorProg
set_option linter.unusedVariables false
set_option maxRecDepth 100000
namespace Go.Proofs.YtnpoohbeicakkaaGreatDoor
open Go Zv
theorem bq {f : Nat} {A : AF} (h : (match Tryz.prog.funcs[f]? with | some fn => some (compF Tryz.prog fn, fn.name == "runtime.NumGoroutine") | none => none) = some (some A, false)) : BodyQ Tryz.prog f A := by
  split at h
  · rename_i fn hf
    have e := Option.some.inj h
    exact body_of hf (congrArg Prod.fst e) (congrArg Prod.snd e)
  · cases h
theorem b8 : BodyQ Tryz.prog 8 Zv.A8 := bq (by kernel_rfl)
theorem b28 : BodyQ Tryz.prog 28 Zv.A28 := bq (by kernel_rfl)
theorem b29 : BodyQ Tryz.prog 29 Zv.A29 := bq (by kernel_rfl)
theorem b30 : BodyQ Tryz.prog 30 Zv.A30 := bq (by kernel_rfl)
theorem b31 : BodyQ Tryz.prog 31 Zv.A31 := bq (by kernel_rfl)
theorem b32 : BodyQ Tryz.prog 32 Zv.A32 := bq (by kernel_rfl)
theorem b33 : BodyQ Tryz.prog 33 Zv.A33 := bq (by kernel_rfl)
theorem b46 : BodyQ Tryz.prog 46 Zv.A46 := bq (by kernel_rfl)
theorem b47 : BodyQ Tryz.prog 47 Zv.A47 := bq (by kernel_rfl)
theorem b51 : BodyQ Tryz.prog 51 Zv.A51 := bq (by kernel_rfl)
theorem b52 : BodyQ Tryz.prog 52 Zv.A52 := bq (by kernel_rfl)
theorem b54 : BodyQ Tryz.prog 54 Zv.A54 := bq (by kernel_rfl)
theorem b56 : BodyQ Tryz.prog 56 Zv.A56 := bq (by kernel_rfl)
theorem b59 : BodyQ Tryz.prog 59 Zv.A59 := bq (by kernel_rfl)
theorem b69 : BodyQ Tryz.prog 69 Zv.A69 := bq (by kernel_rfl)
theorem b70 : BodyQ Tryz.prog 70 Zv.A70 := bq (by kernel_rfl)
theorem b71 : BodyQ Tryz.prog 71 Zv.A71 := bq (by kernel_rfl)
theorem b81 : BodyQ Tryz.prog 81 Zv.A81 := bq (by kernel_rfl)
theorem b95 : BodyQ Tryz.prog 95 Zv.A95 := bq (by kernel_rfl)
theorem b102 : BodyQ Tryz.prog 102 Zv.A102 := bq (by kernel_rfl)
theorem b103 : BodyQ Tryz.prog 103 Zv.A103 := bq (by kernel_rfl)
theorem b106 : BodyQ Tryz.prog 106 Zv.A106 := bq (by kernel_rfl)
theorem b107 : BodyQ Tryz.prog 107 Zv.A107 := bq (by kernel_rfl)
theorem b108 : BodyQ Tryz.prog 108 Zv.A108 := bq (by kernel_rfl)
theorem b109 : BodyQ Tryz.prog 109 Zv.A109 := bq (by kernel_rfl)
theorem b113 : BodyQ Tryz.prog 113 Zv.A113 := bq (by kernel_rfl)
theorem b144 : BodyQ Tryz.prog 144 Zv.A144 := bq (by kernel_rfl)
theorem b152 : BodyQ Tryz.prog 152 Zv.A152 := bq (by kernel_rfl)
theorem b153 : BodyQ Tryz.prog 153 Zv.A153 := bq (by kernel_rfl)
theorem b154 : BodyQ Tryz.prog 154 Zv.A154 := bq (by kernel_rfl)
theorem b183 : BodyQ Tryz.prog 183 Zv.A183 := bq (by kernel_rfl)
theorem b184 : BodyQ Tryz.prog 184 Zv.A184 := bq (by kernel_rfl)
theorem b185 : BodyQ Tryz.prog 185 Zv.A185 := bq (by kernel_rfl)
theorem b186 : BodyQ Tryz.prog 186 Zv.A186 := bq (by kernel_rfl)
theorem b237 : BodyQ Tryz.prog 237 Zv.A237 := bq (by kernel_rfl)
theorem b238 : BodyQ Tryz.prog 238 Zv.A238 := bq (by kernel_rfl)
theorem b239 : BodyQ Tryz.prog 239 Zv.A239 := bq (by kernel_rfl)
theorem b240 : BodyQ Tryz.prog 240 Zv.A240 := bq (by kernel_rfl)
theorem b241 : BodyQ Tryz.prog 241 Zv.A241 := bq (by kernel_rfl)
theorem b242 : BodyQ Tryz.prog 242 Zv.A242 := bq (by kernel_rfl)
theorem b243 : BodyQ Tryz.prog 243 Zv.A243 := bq (by kernel_rfl)
theorem b272 : BodyQ Tryz.prog 272 Zv.A272 := bq (by kernel_rfl)
theorem b292 : BodyQ Tryz.prog 292 Zv.A292 := bq (by kernel_rfl)
theorem b293 : BodyQ Tryz.prog 293 Zv.A293 := bq (by kernel_rfl)
theorem b294 : BodyQ Tryz.prog 294 Zv.A294 := bq (by kernel_rfl)
theorem b305 : BodyQ Tryz.prog 305 Zv.A305 := bq (by kernel_rfl)
theorem b306 : BodyQ Tryz.prog 306 Zv.A306 := bq (by kernel_rfl)
theorem b308 : BodyQ Tryz.prog 308 Zv.A308 := bq (by kernel_rfl)
theorem b309 : BodyQ Tryz.prog 309 Zv.A309 := bq (by kernel_rfl)
theorem b317 : BodyQ Tryz.prog 317 Zv.A317 := bq (by kernel_rfl)
theorem b318 : BodyQ Tryz.prog 318 Zv.A318 := bq (by kernel_rfl)
theorem b342 : BodyQ Tryz.prog 342 Zv.A342 := bq (by kernel_rfl)
theorem bb : tAll (BodyQ Tryz.prog) Zv.TT id := ⟨⟨⟨⟨⟨⟨b32, trivial⟩, ⟨⟨⟨⟨b272, trivial⟩, ⟨b144, trivial⟩⟩, trivial⟩, ⟨b240, trivial⟩⟩⟩, ⟨⟨b8, trivial⟩, ⟨⟨b152, trivial⟩, ⟨⟨⟨b56, trivial⟩, ⟨b184, trivial⟩⟩, trivial⟩⟩⟩⟩, ⟨⟨⟨b292, trivial⟩, ⟨trivial, ⟨⟨⟨⟨b52, trivial⟩, ⟨b308, trivial⟩⟩, trivial⟩, trivial⟩⟩⟩, ⟨⟨b108, trivial⟩, ⟨b28, trivial⟩⟩⟩⟩, ⟨⟨⟨trivial, ⟨trivial, ⟨⟨b306, trivial⟩, ⟨b242, trivial⟩⟩⟩⟩, ⟨⟨b106, trivial⟩, ⟨⟨b154, trivial⟩, ⟨b186, trivial⟩⟩⟩⟩, ⟨⟨⟨⟨b70, trivial⟩, ⟨⟨b294, trivial⟩, ⟨b102, trivial⟩⟩⟩, ⟨⟨b342, trivial⟩, ⟨b54, trivial⟩⟩⟩, ⟨⟨trivial, ⟨⟨b46, trivial⟩, ⟨b238, trivial⟩⟩⟩, ⟨⟨b30, trivial⟩, ⟨b318, trivial⟩⟩⟩⟩⟩⟩, ⟨⟨⟨⟨⟨b33, trivial⟩, ⟨⟨b81, trivial⟩, ⟨⟨b305, trivial⟩, ⟨⟨b113, trivial⟩, ⟨b241, trivial⟩⟩⟩⟩⟩, ⟨trivial, ⟨⟨b153, trivial⟩, ⟨b185, trivial⟩⟩⟩⟩, ⟨⟨⟨⟨b69, trivial⟩, ⟨b293, trivial⟩⟩, ⟨b309, trivial⟩⟩, ⟨⟨trivial, ⟨trivial, ⟨⟨b109, trivial⟩, ⟨b237, trivial⟩⟩⟩⟩, ⟨⟨b29, trivial⟩, ⟨b317, trivial⟩⟩⟩⟩⟩, ⟨⟨⟨trivial, ⟨trivial, ⟨⟨b51, trivial⟩, ⟨b243, trivial⟩⟩⟩⟩, ⟨⟨b107, trivial⟩, ⟨b59, trivial⟩⟩⟩, ⟨⟨⟨⟨b71, trivial⟩, ⟨b103, trivial⟩⟩, ⟨b183, trivial⟩⟩, ⟨⟨trivial, ⟨⟨b47, trivial⟩, ⟨b239, trivial⟩⟩⟩, ⟨⟨⟨b31, trivial⟩, ⟨b95, trivial⟩⟩, trivial⟩⟩⟩⟩⟩⟩
end Go.Proofs.YtnpoohbeicakkaaGreatDoor
