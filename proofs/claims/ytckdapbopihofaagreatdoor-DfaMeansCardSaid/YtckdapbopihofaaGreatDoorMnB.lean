import Derived.Test.YtckdapbopihofaaGreatDoorRows
import Derived.JoinedOf
import Derived.KernelRfl
/- What the row tells of the functions that its law reaches. Conditions: none. -/
namespace Go.Proofs.YtckdapbopihofaaGreatDoor.DfaMeans
open Go
theorem fB : ((Rows.dfaMeansRow.inPlace == Tryz.pinned.checked.prog.inPlace 4) && (Rows.dfaMeansRow.unfollowed == Tryz.pinned.checked.prog.unfollowed 4) && (Rows.dfaMeansRow.recurses == Tryz.pinned.checked.prog.recurses 4) && (Rows.dfaMeansRow.named == Tryz.pinned.checked.prog.varsNamed 4)) = true := by kernel_rfl
end Go.Proofs.YtckdapbopihofaaGreatDoor.DfaMeans
