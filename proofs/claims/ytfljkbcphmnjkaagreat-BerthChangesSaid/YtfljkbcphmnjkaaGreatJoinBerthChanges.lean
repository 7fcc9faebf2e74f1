/- The closed facts of the row of BerthChanges. Conditions: none. -/
import Derived.Test.YtfljkbcphmnjkaaGreatRows
import Derived.JoinedOf
namespace Go.Proofs.YtfljkbcphmnjkaaGreat.berthChangesJoin
set_option linter.all false
theorem me : Tryz.pinned.checked.prog.mayEnter = true := by kernel_rfl
theorem li : (Rows.berthChangesRow.lifted == Tryz.pinned.checked.prog.liftsFinal) = true := by kernel_rfl
theorem mk : (Tryz.pinned.checked.prog.make == some Rows.berthChangesRow.make) = true := by kernel_rfl
theorem joined : joinedFacts Tryz.pinned.checked.prog 5 Tryz.f5 Rows.berthChangesSpec Rows.berthChangesRow = true := by
  unfold joinedFacts
  rw [me, li, mk]
  kernel_rfl
end Go.Proofs.YtfljkbcphmnjkaaGreat.berthChangesJoin
