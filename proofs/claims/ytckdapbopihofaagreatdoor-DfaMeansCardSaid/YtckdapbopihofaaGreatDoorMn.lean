import Derived.Test.YtckdapbopihofaaGreatDoorMnA
/- On any word: whether it is meant, as the ways tell; a dead state means no word that goes on (DfaMeans). Conditions: none beyond the statement's own. A part of that proof: RowMeans. Conditions: none beyond the statement's own. By an AI agent; no person has read it. -/
set_option linter.unusedVariables false
set_option linter.unusedSimpArgs false
section
set_option maxRecDepth 100000
namespace Go.Proofs.YtckdapbopihofaaGreatDoor.DfaMeans
open Go Go.RowKit Go.Proofs Go.ChangeShapes Go.WideShapes Go.ChangeAt Go.Clt Go.WideMaps
theorem plain (f : FuncId) (fn : Func) (hf : Tryz.pinned.checked.prog.funcNamed "caltrop/caltroplaw26.DfaMeans" = some f) (hfn : Tryz.pinned.checked.prog.funcs[f]? = some fn) :
  false = Tryz.pinned.checked.prog.looks [] ∧ ∀ (j : Nat) t, fn.params[j]? = some t → Tryz.pinned.checked.prog.wantsStandIn t = false := by
 obtain rfl : f = 4 := Option.some.inj ((show Tryz.prog.funcNamed "caltrop/caltroplaw26.DfaMeans" = some 4 by kernel_rfl).symm.trans hf) |>.symm
 obtain rfl : fn = Tryz.f4 := (Option.some.inj (Tryz.func4.symm.trans hfn)).symm
 refine ⟨by kernel_rfl, fun j t ht => ?_⟩
 rw [parms] at ht
 have hm : t ∈ [9, 3, 9, 9] := by simpa using Array.mem_of_getElem? ht
 have hall : ([9, 3, 9, 9].all fun u => !Tryz.prog.wantsStandIn u) = true := by kernel_rfl
 exact (show Tryz.prog.wantsStandIn t = false by simpa using En8.1 hall t hm)
theorem card : Rows.DfaMeansCardSaid :=
 Claim7.holds_tied_plain_at .later [] _ _ _ _ said (fun _ h => by cases h) (by kernel_rfl) (fun _ h => by cases h) dfaMeans_row_tie rfl ⟨rfl, rfl⟩ (by kernel_rfl) rfl plain fE
#print axioms card
end Go.Proofs.YtckdapbopihofaaGreatDoor.DfaMeans
end
