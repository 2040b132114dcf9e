import Derived.Test.YtckdapbopihofaaGreatDoorRows
import Derived.JoinedOf
import Derived.KernelRfl
/- What the row tells of the functions that its law reaches. Conditions: none. -/
namespace Go.Proofs.YtckdapbopihofaaGreatDoor.WordsMeant
open Go
theorem fB : ((Rows.wordsMeantRow.inPlace == Tryz.pinned.checked.prog.inPlace 8) && (Rows.wordsMeantRow.unfollowed == Tryz.pinned.checked.prog.unfollowed 8) && (Rows.wordsMeantRow.recurses == Tryz.pinned.checked.prog.recurses 8) && (Rows.wordsMeantRow.named == Tryz.pinned.checked.prog.varsNamed 8)) = true := by kernel_rfl
end Go.Proofs.YtckdapbopihofaaGreatDoor.WordsMeant
