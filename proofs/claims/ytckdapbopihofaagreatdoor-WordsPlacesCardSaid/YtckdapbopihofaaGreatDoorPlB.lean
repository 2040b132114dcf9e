import Derived.Test.YtckdapbopihofaaGreatDoorRows
import Derived.JoinedOf
import Derived.KernelRfl
/- What the row tells of the functions that its law reaches. Conditions: none. -/
namespace Go.Proofs.YtckdapbopihofaaGreatDoor.WordsPlaces
open Go
theorem fB : ((Rows.wordsPlacesRow.inPlace == Tryz.pinned.checked.prog.inPlace 9) && (Rows.wordsPlacesRow.unfollowed == Tryz.pinned.checked.prog.unfollowed 9) && (Rows.wordsPlacesRow.recurses == Tryz.pinned.checked.prog.recurses 9) && (Rows.wordsPlacesRow.named == Tryz.pinned.checked.prog.varsNamed 9)) = true := by kernel_rfl
end Go.Proofs.YtckdapbopihofaaGreatDoor.WordsPlaces
