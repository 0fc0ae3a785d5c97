/- The statement TaintRises: for every input the call returns true, and the arguments read as before. Conditions: the package-level variables that the row lists hold what the program's text lays (the card ties them). -/
import Derived.Test.YtblbgjfkbcdlfaaGreatDoorPA
import Derived.Test.YtblbgjfkbcdlfaaGreatDoorLF
set_option linter.unusedVariables false
set_option linter.unusedSimpArgs false
set_option maxRecDepth 100000
namespace Go.Proofs.YtblbgjfkbcdlfaaGreatDoor.taintRises
open Go Iv Go.ChangeShapes Go.WideShapes Go.ChangeAt Go.RowKit Go.Proofs.YtblbgjfkbcdlfaaGreatDoor

theorem hfn4 : Tryz.prog.funcs[4]? = some Tryz.f4 := by kernel_rfl
theorem args4 : argsOf Tryz.prog 5 Tryz.f4.params.toList = some [(true, [.sl [.str], .sl [.int .u8]]), (false, [.sl [.int .i64, .int .i64, .int .i64, .int .i64, .int .i64]]), (true, [.int .u8, .int .u8, .int .u8])] := by kernel_rfl

theorem in_u8 {d : D} (h : TY.ok (.int .u8) d) : ∃ x : Nat, d = .int .u8 (x : Int) ∧ x < 256 := by
  simp only [TY.ok] at h
  obtain ⟨n, rfl, h1, h2⟩ := h
  have h1 : 0 ≤ n := h1
  have h2 : n ≤ 255 := h2
  exact ⟨n.toNat, by rw [show ((n.toNat : Nat) : Int) = n by omega], by omega⟩

theorem contract (H : Type) (enc : TypeId × Value → H) (W : World) (base : Nat) (args : Array Value) (ds gs : List (DataW H)) (before : List MemPlace)
    (hval : ∀ (j : Nat) t v, Tryz.f4.params[j]? = some t → args[j]? = some v → Value.okWide Tryz.prog W .any base t v)
    (hW : DataW.Whole enc Tryz.prog Tryz.f4.params.toList Rows.taintRisesSpec.vars false W args.toList ds gs before) (hL : laidMetH Tryz.prog laidL W) :
    Calls Tryz.prog 4 args W fun e W' => ∃ v, e = .returned v ∧ Rows.taintRisesSpec.post enc Tryz.prog Tryz.f4 false true false false W args v W' := by
  have hW0 := hW
  obtain ⟨p, q, hA, _⟩ := hW0
  obtain ⟨xs, hv, hdp, hok⟩ := args_in args4 hA (fun j t v ht hv => hval j t v (by simpa using ht) (by simpa using hv))
  simp only [AOks] at hok
  obtain ⟨d1, r1, rfl, ⟨cs, rfl, hcs⟩, d2, r2, rfl, h2, d3, r3, rfl, ⟨cs3, rfl, hcs3⟩, rfl⟩ := hok
  simp only [TY.oks] at hcs hcs3
  obtain ⟨da, ra, rfl, ha, db, rb, rfl, hb, rfl⟩ := hcs
  obtain ⟨dx, rx, rfl, hx, dy, ry, rfl, hy, dz, rz, rfl, hz, rfl⟩ := hcs3
  simp only [AOk, TY.oks] at h2
  obtain ⟨d2', r2', e2, h2, rfl⟩ := h2
  simp only [List.cons.injEq, and_true] at e2
  subst e2
  obtain ⟨ss, hs⟩ := in_strs ha
  obtain ⟨us, hu⟩ := in_u8s hb
  obtain ⟨ts, ht⟩ := in_tys h2
  obtain ⟨x, rfl, kx⟩ := in_u8 hx
  obtain ⟨y, rfl, ky⟩ := in_u8 hy
  obtain ⟨z, rfl, kz⟩ := in_u8 hz
  have hp := (cl_ok 13 4 _ _ (c4 hs hu 0 ht kx ky kz)).1
  exact row_true (E := TryzE) (t := 4) kids slices_pos (by decide +kernel) rfl (fun d0 hd => by
    match d0, hd with
    | [a, b, c], _ => rfl) (by kernel_rfl) (by kernel_rfl) hW hp (globs hL) hv

theorem reads (os : Os) {H : Type} (enc : TypeId × Value → H) : ∃ places, DataW.whole enc Tryz.prog ((laidWorld os).forCall (fun _ _ => 0) ⟨#[], #[.agg #[.slice none 0 0, .slice none 0 0], .slice none 0 0, .agg #[.int .u8 0, .int .u8 0, .int .u8 0]], []⟩).memory Tryz.f4.params.toList Rows.taintRisesSpec.vars false #[Value.agg #[.slice none 0 0, .slice none 0 0], .slice none 0 0, .agg #[.int .u8 0, .int .u8 0, .int .u8 0]].toList 8 = some ([.agg [.nil, .nil], .nil, .agg [.lit (.int .u8 0), .lit (.int .u8 0), .lit (.int .u8 0)]], [], places) :=
  ⟨[], by kernel_rfl⟩

theorem lifted (os : Os) (started : os.Started) (H : Type) (enc : TypeId × Value → H) (F : Stop.Interp) :
    ReturnsInHanded {} Tryz.checked os 4 .any ((OpenSpec.ofChange Rows.taintRisesSpec).preRow enc Tryz.prog Tryz.f4 Rows.taintRisesRow.domain false Rows.taintRisesRow.laid) (((OpenSpec.ofChange Rows.taintRisesSpec).at F).post enc Tryz.prog Tryz.f4 false true false false) := by
  obtain ⟨places, hx⟩ := reads os enc
  refine returnsInHanded_of_row (C := Tryz.checked) (s := OpenSpec.ofChange Rows.taintRisesSpec) own started (by kernel_rfl) hfn4
    (witness_row_atRef (enc := enc) (C := Tryz.checked) false (laidWorld os) #[.agg #[.slice none 0 0, .slice none 0 0], .slice none 0 0, .agg #[.int .u8 0, .int .u8 0, .int .u8 0]] rfl (by kernel_rfl) (by kernel_rfl) (by kernel_rfl)
      (OpenSpec.preRow_of_cond 8 hx (by kernel_rfl) (fun k hk => by cases hk) (by kernel_rfl) (laid_met os _))) ?_
  intro W base args ds gs before hval hW _ _ _ hL _ _
  exact contract H enc W base args ds gs before hval hW hL

theorem said : Rows.TaintRisesSaid :=
  OpenClaim.holds_of_cond 4 Tryz.f4 rfl rfl rfl rfl rfl rfl rfl ⟨rfl, rfl, rfl, rfl, rfl⟩ rfl rfl rfl rfl rfl (by kernel_rfl) hfn4 (by kernel_rfl)
    (of_decide_eq_true (by kernel_rfl)) (by unfold Func.isWrapper; first | (rw [if_pos (by decide +kernel)]; kernel_rfl) | (rw [if_neg (by decide +kernel)]; exact ⟨rfl, rfl⟩))
    (fun os started H enc _ F => by rw [OpenClaim.pre_eq_preRow]; exact lifted os started H enc F)

theorem plain (f : FuncId) (fn : Func) (hf : Tryz.pinned.checked.prog.funcNamed "invigilator/invigilatorlaw27.TaintRises" = some f) (hfn : Tryz.pinned.checked.prog.funcs[f]? = some fn) :
    false = Tryz.pinned.checked.prog.looks [] ∧ ∀ (j : Nat) t, fn.params[j]? = some t → Tryz.pinned.checked.prog.wantsStandIn t = false := by
  obtain rfl : f = 4 := Option.some.inj ((show Tryz.prog.funcNamed "invigilator/invigilatorlaw27.TaintRises" = some 4 by kernel_rfl).symm.trans hf) |>.symm
  obtain rfl : fn = Tryz.f4 := (Option.some.inj (hfn4.symm.trans hfn)).symm
  refine ⟨by kernel_rfl, fun j t ht => ?_⟩
  have hall : (Tryz.f4.params.toList.all fun t => !(Tryz.prog.wantsStandIn t)) = true := by kernel_rfl
  have := List.all_eq_true.1 hall t (by rw [Array.mem_toList_iff]; exact Array.mem_of_getElem? ht)
  show Tryz.prog.wantsStandIn t = false
  simpa using this

theorem card : Rows.TaintRisesCardSaid :=
  Claim7.holds_tied_plain_at .later [] _ _ _ _ said (fun _ h => by cases h) (by kernel_rfl) (fun _ h => by cases h) taintRises_row_tie rfl ⟨rfl, rfl⟩ (by kernel_rfl) rfl plain (by kernel_rfl)
#print axioms card
end Go.Proofs.YtblbgjfkbcdlfaaGreatDoor.taintRises
