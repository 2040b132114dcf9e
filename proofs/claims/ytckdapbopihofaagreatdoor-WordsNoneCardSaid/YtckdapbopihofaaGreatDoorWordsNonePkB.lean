import Derived.Test.YtckdapbopihofaaGreatDoorRows
import Derived.JoinedOf
import Derived.KernelRfl
/- What the row tells of the functions that its law reaches. Conditions: none. -/
namespace Go.Proofs.YtckdapbopihofaaGreatDoor.WordsNone
open Go
theorem fB : ((Rows.wordsNoneRow.inPlace == Tryz.pinned.checked.prog.inPlace 10) && (Rows.wordsNoneRow.unfollowed == Tryz.pinned.checked.prog.unfollowed 10) && (Rows.wordsNoneRow.recurses == Tryz.pinned.checked.prog.recurses 10) && (Rows.wordsNoneRow.named == Tryz.pinned.checked.prog.varsNamed 10)) = true := by kernel_rfl
end Go.Proofs.YtckdapbopihofaaGreatDoor.WordsNone
