import Derived.Test.YtckdapbopihofaaGreatDoorRows
import Derived.JoinedOf
import Derived.KernelRfl
/- What the row tells of the functions that its law reaches. Conditions: none. -/
namespace Go.Proofs.YtckdapbopihofaaGreatDoor.DfaStates
open Go
theorem fB : ((Rows.dfaStatesRow.inPlace == Tryz.pinned.checked.prog.inPlace 5) && (Rows.dfaStatesRow.unfollowed == Tryz.pinned.checked.prog.unfollowed 5) && (Rows.dfaStatesRow.recurses == Tryz.pinned.checked.prog.recurses 5) && (Rows.dfaStatesRow.named == Tryz.pinned.checked.prog.varsNamed 5)) = true := by kernel_rfl
end Go.Proofs.YtckdapbopihofaaGreatDoor.DfaStates
