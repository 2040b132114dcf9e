import Derived.Test.YtckdapbopihofaaGreatDoorRows
import Derived.JoinedOf
import Derived.KernelRfl
/- What the row tells of the functions that its law reaches. Conditions: none. -/
namespace Go.Proofs.YtckdapbopihofaaGreatDoor.WordsList
open Go
theorem fB : ((Rows.wordsListRow.inPlace == Tryz.pinned.checked.prog.inPlace 7) && (Rows.wordsListRow.unfollowed == Tryz.pinned.checked.prog.unfollowed 7) && (Rows.wordsListRow.recurses == Tryz.pinned.checked.prog.recurses 7) && (Rows.wordsListRow.named == Tryz.pinned.checked.prog.varsNamed 7)) = true := by kernel_rfl
end Go.Proofs.YtckdapbopihofaaGreatDoor.WordsList
