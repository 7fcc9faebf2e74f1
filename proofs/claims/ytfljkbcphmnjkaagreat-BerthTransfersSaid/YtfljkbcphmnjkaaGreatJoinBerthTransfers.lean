/- The closed facts of the row of BerthTransfers. Conditions: none. -/
import Derived.Test.YtfljkbcphmnjkaaGreatRows
import Derived.JoinedOf
namespace Go.Proofs.YtfljkbcphmnjkaaGreat.berthTransfersJoin
set_option linter.all false
theorem me : Tryz.pinned.checked.prog.mayEnter = true := by kernel_rfl
theorem li : (Rows.berthTransfersRow.lifted == Tryz.pinned.checked.prog.liftsFinal) = true := by kernel_rfl
theorem mk : (Tryz.pinned.checked.prog.make == some Rows.berthTransfersRow.make) = true := by kernel_rfl
theorem joined : joinedFacts Tryz.pinned.checked.prog 4 Tryz.f4 Rows.berthTransfersSpec Rows.berthTransfersRow = true := by
  unfold joinedFacts
  rw [me, li, mk]
  kernel_rfl
end Go.Proofs.YtfljkbcphmnjkaaGreat.berthTransfersJoin
