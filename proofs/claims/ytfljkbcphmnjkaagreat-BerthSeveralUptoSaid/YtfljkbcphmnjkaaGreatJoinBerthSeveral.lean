/- The closed facts of the row of BerthSeveral. Conditions: none. -/
import Derived.Test.YtfljkbcphmnjkaaGreatRows
import Derived.JoinedOf
namespace Go.Proofs.YtfljkbcphmnjkaaGreat.berthSeveralJoin
set_option linter.all false
theorem me : Tryz.pinned.checked.prog.mayEnter = true := by kernel_rfl
theorem li : (Rows.berthSeveralUptoRow.lifted == Tryz.pinned.checked.prog.liftsFinal) = true := by kernel_rfl
theorem mk : (Tryz.pinned.checked.prog.make == some Rows.berthSeveralUptoRow.make) = true := by kernel_rfl
theorem joined : joinedFacts Tryz.pinned.checked.prog 7 Tryz.f7 (Rows.OpenSpec.upto Rows.berthSeveralSpec).bare Rows.berthSeveralUptoRow = true := by
  unfold joinedFacts
  rw [me, li, mk]
  kernel_rfl
end Go.Proofs.YtfljkbcphmnjkaaGreat.berthSeveralJoin
