/- The closed facts of the row of BerthMost. Conditions: none. -/
import Derived.Test.YtfljkbcphmnjkaaRows
import Derived.JoinedOf
namespace Go.Proofs.Ytfljkbcphmnjkaa.berthMostJoin
set_option linter.all false
theorem me : Try.pinned.checked.prog.mayEnter = true := by kernel_rfl
theorem li : (Rows.berthMostRow.lifted == Try.pinned.checked.prog.liftsFinal) = true := by kernel_rfl
theorem mk : (Try.pinned.checked.prog.make == some Rows.berthMostRow.make) = true := by kernel_rfl
theorem joined : joinedFacts Try.pinned.checked.prog 12 Try.f12 Rows.berthMostSpec Rows.berthMostRow = true := by
  unfold joinedFacts
  rw [me, li, mk]
  kernel_rfl
end Go.Proofs.Ytfljkbcphmnjkaa.berthMostJoin
