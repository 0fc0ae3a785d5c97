/- The statement TaintRules: for every input the call returns true, and the arguments read as before. Conditions: the package-level variables that the row lists hold what the program's text lays (the card ties them). -/
import Derived.Test.YtblbgjfkbcdlfaaGreatDoorPA
import Derived.Test.YtblbgjfkbcdlfaaGreatDoorLI
set_option linter.unusedVariables false
set_option linter.unusedSimpArgs false
set_option maxRecDepth 100000
namespace Go.Proofs.YtblbgjfkbcdlfaaGreatDoor.taintRules
open Go Iv Go.ChangeShapes Go.WideShapes Go.ChangeAt Go.RowKit Go.Proofs.YtblbgjfkbcdlfaaGreatDoor

theorem hfn5 : Tryz.prog.funcs[5]? = some Tryz.f5 := by kernel_rfl
theorem args5 : argsOf Tryz.prog 5 Tryz.f5.params.toList = some [(true, [.sl [.str], .sl [.int .u8]]), (false, [.int .i64]), (false, [.sl [.int .i64, .int .i64, .int .i64, .int .i64, .int .i64]])] := by kernel_rfl

theorem contract (H : Type) (enc : TypeId × Value → H) (W : World) (base : Nat) (args : Array Value) (ds gs : List (DataW H)) (before : List MemPlace)
    (hval : ∀ (j : Nat) t v, Tryz.f5.params[j]? = some t → args[j]? = some v → Value.okWide Tryz.prog W .any base t v)
    (hW : DataW.Whole enc Tryz.prog Tryz.f5.params.toList Rows.taintRulesSpec.vars false W args.toList ds gs before) (hL : laidMetH Tryz.prog laidL W) :
    Calls Tryz.prog 5 args W fun e W' => ∃ v, e = .returned v ∧ Rows.taintRulesSpec.post enc Tryz.prog Tryz.f5 false true false false W args v W' := by
  have hW0 := hW
  obtain ⟨p, q, hA, _⟩ := hW0
  obtain ⟨xs, hv, hdp, hok⟩ := args_in args5 hA (fun j t v ht hv => hval j t v (by simpa using ht) (by simpa using hv))
  simp only [AOks] at hok
  obtain ⟨d1, r1, rfl, ⟨cs, rfl, hcs⟩, d2, r2, rfl, h2, d3, r3, rfl, h3, rfl⟩ := hok
  simp only [TY.oks] at hcs
  obtain ⟨da, ra, rfl, ha, db, rb, rfl, hb, rfl⟩ := hcs
  simp only [AOk, TY.oks] at h2 h3
  obtain ⟨d2', r2', e2, h2, rfl⟩ := h2
  obtain ⟨d3', r3', e3, h3, rfl⟩ := h3
  simp only [List.cons.injEq, and_true] at e2 e3
  subst e2 e3
  obtain ⟨ss, hs⟩ := in_strs ha
  obtain ⟨us, hu⟩ := in_u8s hb
  obtain ⟨ts, ht⟩ := in_tys h3
  simp only [TY.ok] at h2
  obtain ⟨pn, rfl, _⟩ := h2
  have hp := (cl_ok 13 5 _ _ (c5 hs hu 0 pn ht)).1
  exact row_true (E := TryzE) (t := 4) kids slices_pos (by decide +kernel) rfl (fun d0 hd => by
    match d0, hd with
    | [a, b, c], _ => rfl) (by kernel_rfl) (by kernel_rfl) hW hp (globs hL) hv

theorem reads (os : Os) {H : Type} (enc : TypeId × Value → H) : ∃ places, DataW.whole enc Tryz.prog ((laidWorld os).forCall (fun _ _ => 0) ⟨#[], #[.agg #[.slice none 0 0, .slice none 0 0], .int .i64 0, .slice none 0 0], []⟩).memory Tryz.f5.params.toList Rows.taintRulesSpec.vars false #[Value.agg #[.slice none 0 0, .slice none 0 0], .int .i64 0, .slice none 0 0].toList 8 = some ([.agg [.nil, .nil], .lit (.int .i64 0), .nil], [], places) :=
  ⟨[], by kernel_rfl⟩

theorem lifted (os : Os) (started : os.Started) (H : Type) (enc : TypeId × Value → H) (F : Stop.Interp) :
    ReturnsInHanded {} Tryz.checked os 5 .any ((OpenSpec.ofChange Rows.taintRulesSpec).preRow enc Tryz.prog Tryz.f5 Rows.taintRulesRow.domain false Rows.taintRulesRow.laid) (((OpenSpec.ofChange Rows.taintRulesSpec).at F).post enc Tryz.prog Tryz.f5 false true false false) := by
  obtain ⟨places, hx⟩ := reads os enc
  refine returnsInHanded_of_row (C := Tryz.checked) (s := OpenSpec.ofChange Rows.taintRulesSpec) own started (by kernel_rfl) hfn5
    (witness_row_atRef (enc := enc) (C := Tryz.checked) false (laidWorld os) #[.agg #[.slice none 0 0, .slice none 0 0], .int .i64 0, .slice none 0 0] rfl (by kernel_rfl) (by kernel_rfl) (by kernel_rfl)
      (OpenSpec.preRow_of_cond 8 hx (by kernel_rfl) (fun k hk => by cases hk) (by kernel_rfl) (laid_met os _))) ?_
  intro W base args ds gs before hval hW _ _ _ hL _ _
  exact contract H enc W base args ds gs before hval hW hL

theorem said : Rows.TaintRulesSaid :=
  OpenClaim.holds_of_cond 5 Tryz.f5 rfl rfl rfl rfl rfl rfl rfl ⟨rfl, rfl, rfl, rfl, rfl⟩ rfl rfl rfl rfl rfl (by kernel_rfl) hfn5 (by kernel_rfl)
    (of_decide_eq_true (by kernel_rfl)) (by unfold Func.isWrapper; first | (rw [if_pos (by decide +kernel)]; kernel_rfl) | (rw [if_neg (by decide +kernel)]; exact ⟨rfl, rfl⟩))
    (fun os started H enc _ F => by rw [OpenClaim.pre_eq_preRow]; exact lifted os started H enc F)

theorem plain (f : FuncId) (fn : Func) (hf : Tryz.pinned.checked.prog.funcNamed "invigilator/invigilatorlaw27.TaintRules" = some f) (hfn : Tryz.pinned.checked.prog.funcs[f]? = some fn) :
    false = Tryz.pinned.checked.prog.looks [] ∧ ∀ (j : Nat) t, fn.params[j]? = some t → Tryz.pinned.checked.prog.wantsStandIn t = false := by
  obtain rfl : f = 5 := Option.some.inj ((show Tryz.prog.funcNamed "invigilator/invigilatorlaw27.TaintRules" = some 5 by kernel_rfl).symm.trans hf) |>.symm
  obtain rfl : fn = Tryz.f5 := (Option.some.inj (hfn5.symm.trans hfn)).symm
  refine ⟨by kernel_rfl, fun j t ht => ?_⟩
  have hall : (Tryz.f5.params.toList.all fun t => !(Tryz.prog.wantsStandIn t)) = true := by kernel_rfl
  have := List.all_eq_true.1 hall t (by rw [Array.mem_toList_iff]; exact Array.mem_of_getElem? ht)
  show Tryz.prog.wantsStandIn t = false
  simpa using this

theorem card : Rows.TaintRulesCardSaid :=
  Claim7.holds_tied_plain_at .later [] _ _ _ _ said (fun _ h => by cases h) (by kernel_rfl) (fun _ h => by cases h) taintRules_row_tie rfl ⟨rfl, rfl⟩ (by kernel_rfl) rfl plain (by kernel_rfl)
#print axioms card
end Go.Proofs.YtblbgjfkbcdlfaaGreatDoor.taintRules
