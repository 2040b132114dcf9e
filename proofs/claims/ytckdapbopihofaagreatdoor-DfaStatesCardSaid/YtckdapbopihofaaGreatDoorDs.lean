import Derived.Test.YtckdapbopihofaaGreatDoorDsA
/- All states, in order, each by its word, where they lead, which are meant; or that there are more than the budget (DfaStates). Conditions: none beyond the statement's own. A part of that proof: RowStates. Conditions: none beyond the statement's own. By an AI agent; no person has read it. -/
set_option linter.unusedVariables false
set_option linter.unusedSimpArgs false
section
set_option maxRecDepth 100000
namespace Go.Proofs.YtckdapbopihofaaGreatDoor.DfaStates
open Go Go.RowKit Go.Proofs Go.ChangeShapes Go.WideShapes Go.ChangeAt Go.Clt Go.WideMaps
theorem plain (f : FuncId) (fn : Func) (hf : Tryz.pinned.checked.prog.funcNamed "caltrop/caltroplaw26.DfaStates" = some f) (hfn : Tryz.pinned.checked.prog.funcs[f]? = some fn) :
  false = Tryz.pinned.checked.prog.looks [] ∧ ∀ (j : Nat) t, fn.params[j]? = some t → Tryz.pinned.checked.prog.wantsStandIn t = false := by
 obtain rfl : f = 5 := Option.some.inj ((show Tryz.prog.funcNamed "caltrop/caltroplaw26.DfaStates" = some 5 by kernel_rfl).symm.trans hf) |>.symm
 obtain rfl : fn = Tryz.f5 := (Option.some.inj (Tryz.func5.symm.trans hfn)).symm
 refine ⟨by kernel_rfl, fun j t ht => ?_⟩
 rw [parms] at ht
 have hm : t ∈ [9, 3, 3] := by simpa using Array.mem_of_getElem? ht
 have hall : ([9, 3, 3].all fun u => !Tryz.prog.wantsStandIn u) = true := by kernel_rfl
 exact (show Tryz.prog.wantsStandIn t = false by simpa using En1.1 hall t hm)
theorem card : Rows.DfaStatesCardSaid :=
 Claim7.holds_tied_plain_at .later [] _ _ _ _ said (fun _ h => by cases h) (by kernel_rfl) (fun _ h => by cases h) dfaStates_row_tie rfl ⟨rfl, rfl⟩ (by kernel_rfl) rfl plain fE
#print axioms card
end Go.Proofs.YtckdapbopihofaaGreatDoor.DfaStates
end
