import Derived.Test.YtckdapbopihofaaGreatDoorDfaNonePkA
/- DfaNone: for every input the law answers true, its arguments left as they were (the tied card). A part of that proof: RowNone. Conditions: none beyond the statement's own. By an AI agent; no person has read it. -/
section
set_option linter.unusedVariables false
set_option maxRecDepth 100000
namespace Go.Proofs.YtckdapbopihofaaGreatDoor.DfaN
open Go Go.RowKit Go.Proofs Go.ChangeShapes Go.WideShapes Go.ChangeAt Go.Clt Go.WideMaps
theorem plain (f : FuncId) (fn : Func) (hf : Tryz.pinned.checked.prog.funcNamed "caltrop/caltroplaw26.DfaNone" = some f) (hfn : Tryz.pinned.checked.prog.funcs[f]? = some fn) :
    false = Tryz.pinned.checked.prog.looks [] ∧ ∀ (j : Nat) t, fn.params[j]? = some t → Tryz.pinned.checked.prog.wantsStandIn t = false := by
  obtain rfl : f = 6 := Option.some.inj ((show Tryz.prog.funcNamed "caltrop/caltroplaw26.DfaNone" = some 6 by kernel_rfl).symm.trans hf) |>.symm
  obtain rfl : fn = Tryz.f6 := (Option.some.inj (Tryz.func6.symm.trans hfn)).symm
  refine ⟨by kernel_rfl, fun j t ht => ?_⟩
  rw [params6] at ht
  have hm : t ∈ [3, 5, 9] := by simpa using Array.mem_of_getElem? ht
  have hall : ([3, 5, 9].all fun u => !Tryz.prog.wantsStandIn u) = true := by kernel_rfl
  exact (show Tryz.prog.wantsStandIn t = false by simpa using List.all_eq_true.1 hall t hm)
theorem card : Rows.DfaNoneCardSaid :=
  Claim7.holds_tied_plain_at .later [] _ _ _ _ said (fun _ h => by cases h) (by kernel_rfl) (fun _ h => by cases h) dfaNone_row_tie rfl ⟨rfl, rfl⟩ (by kernel_rfl) rfl plain fE
#print axioms card
end Go.Proofs.YtckdapbopihofaaGreatDoor.DfaN
end
