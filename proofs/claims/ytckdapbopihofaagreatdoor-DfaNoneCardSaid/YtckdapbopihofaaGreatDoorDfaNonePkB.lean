import Derived.Test.YtckdapbopihofaaGreatDoorRows
import Derived.JoinedOf
import Derived.KernelRfl
/- What the row tells of the functions that its law reaches. Conditions: none. -/
namespace Go.Proofs.YtckdapbopihofaaGreatDoor.DfaN
open Go
theorem fB : ((Rows.dfaNoneRow.inPlace == Tryz.pinned.checked.prog.inPlace 6) && (Rows.dfaNoneRow.unfollowed == Tryz.pinned.checked.prog.unfollowed 6) && (Rows.dfaNoneRow.recurses == Tryz.pinned.checked.prog.recurses 6) && (Rows.dfaNoneRow.named == Tryz.pinned.checked.prog.varsNamed 6)) = true := by kernel_rfl
end Go.Proofs.YtckdapbopihofaaGreatDoor.DfaN
