import Derived.Test.YtckdapbopihofaaGreatDoorRows
import Derived.JoinedOf
import Derived.KernelRfl
/- What the row tells of the functions that its law reaches. Conditions: none. -/
namespace Go.Proofs.YtckdapbopihofaaGreatDoor.DfaCounts
open Go
theorem fB : ((Rows.dfaCountsRow.inPlace == Tryz.pinned.checked.prog.inPlace 3) && (Rows.dfaCountsRow.unfollowed == Tryz.pinned.checked.prog.unfollowed 3) && (Rows.dfaCountsRow.recurses == Tryz.pinned.checked.prog.recurses 3) && (Rows.dfaCountsRow.named == Tryz.pinned.checked.prog.varsNamed 3)) = true := by kernel_rfl
end Go.Proofs.YtckdapbopihofaaGreatDoor.DfaCounts
