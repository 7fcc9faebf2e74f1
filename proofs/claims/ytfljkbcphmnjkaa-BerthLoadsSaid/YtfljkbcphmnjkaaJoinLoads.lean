/- The closed facts of the row of BerthLoads. Conditions: none. -/
import Derived.Test.YtfljkbcphmnjkaaRows
import Derived.JoinedOf
namespace Go.Proofs.Ytfljkbcphmnjkaa.berthLoadsJoin
set_option linter.all false
theorem me : Try.pinned.checked.prog.mayEnter = true := by kernel_rfl
theorem li : (Rows.berthLoadsRow.lifted == Try.pinned.checked.prog.liftsFinal) = true := by kernel_rfl
theorem mk : (Try.pinned.checked.prog.make == some Rows.berthLoadsRow.make) = true := by kernel_rfl
theorem joined : joinedFacts Try.pinned.checked.prog 13 Try.f13 Rows.berthLoadsSpec Rows.berthLoadsRow = true := by
  unfold joinedFacts
  rw [me, li, mk]
  kernel_rfl
end Go.Proofs.Ytfljkbcphmnjkaa.berthLoadsJoin
