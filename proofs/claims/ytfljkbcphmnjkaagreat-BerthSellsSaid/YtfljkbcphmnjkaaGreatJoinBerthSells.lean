/- The closed facts of the row of BerthSells. Conditions: none. -/
import Derived.Test.YtfljkbcphmnjkaaGreatRows
import Derived.JoinedOf
namespace Go.Proofs.YtfljkbcphmnjkaaGreat.berthSellsJoin
set_option linter.all false
theorem me : Tryz.pinned.checked.prog.mayEnter = true := by kernel_rfl
theorem li : (Rows.berthSellsRow.lifted == Tryz.pinned.checked.prog.liftsFinal) = true := by kernel_rfl
theorem mk : (Tryz.pinned.checked.prog.make == some Rows.berthSellsRow.make) = true := by kernel_rfl
theorem joined : joinedFacts Tryz.pinned.checked.prog 6 Tryz.f6 Rows.berthSellsSpec Rows.berthSellsRow = true := by
  unfold joinedFacts
  rw [me, li, mk]
  kernel_rfl
end Go.Proofs.YtfljkbcphmnjkaaGreat.berthSellsJoin
