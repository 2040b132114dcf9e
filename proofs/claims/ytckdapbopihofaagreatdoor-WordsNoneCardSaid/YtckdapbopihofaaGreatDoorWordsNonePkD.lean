import Derived.Test.YtckdapbopihofaaGreatDoorRows
import Derived.JoinedOf
import Derived.KernelRfl
/- The program may be entered, and its make. Conditions: none. -/
namespace Go.Proofs.YtckdapbopihofaaGreatDoor.WordsNone
open Go
theorem fD : (Tryz.pinned.checked.prog.stopsHeard && Tryz.pinned.checked.prog.mayEnter && (Rows.wordsNoneRow.lifted == Tryz.pinned.checked.prog.liftsFinal) && (Tryz.pinned.checked.prog.make == some Rows.wordsNoneRow.make)) = true := by kernel_rfl
end Go.Proofs.YtckdapbopihofaaGreatDoor.WordsNone
