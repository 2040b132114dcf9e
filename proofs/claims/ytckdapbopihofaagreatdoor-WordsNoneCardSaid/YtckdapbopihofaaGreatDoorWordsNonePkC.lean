import Derived.Test.YtckdapbopihofaaGreatDoorRows
import Derived.JoinedOf
import Derived.KernelRfl
import GoSem.ClaimGoes
/- The program is laid out, and starts no goroutine. Conditions: none. -/
namespace Go.Proofs.YtckdapbopihofaaGreatDoor.WordsNone
open Go
theorem fC : (laidOutB Tryz.pinned.checked.prog && mapsRowed Tryz.pinned.checked.prog) = true := by kernel_rfl
theorem noGo : Tryz.pinned.checked.prog.funcs.any Func.goes = false := by kernel_rfl
theorem fE : false = Rows.wordsNoneRow.goesBy Tryz.pinned.checked.prog := by
  have h : ∀ g, (Tryz.pinned.checked.prog.funcs[g]?).any Func.goes = false := fun g => by
    rw [Option.any_eq_false]
    intro x hx
    have := Array.any_eq_false'.1 noGo x (Array.mem_of_getElem? hx)
    simpa using this
  unfold OpenClaim.goesBy Program.goesAt Program.goesFrom
  rw [show Rows.wordsNoneRow.start = .entering from rfl]
  cases Tryz.pinned.checked.prog.funcNamed Rows.wordsNoneRow.func with
  | none => rfl
  | some a => simp [Program.goes, h, noGo]
end Go.Proofs.YtckdapbopihofaaGreatDoor.WordsNone
