/- The closed facts of the row of BerthPlaces. Conditions: none. -/
import Derived.Test.YtfljkbcphmnjkaaGreatRows
import Derived.JoinedOf
namespace Go.Proofs.YtfljkbcphmnjkaaGreat.berthPlacesJoin
set_option linter.all false
theorem me : Tryz.pinned.checked.prog.mayEnter = true := by kernel_rfl
theorem li : (Rows.berthPlacesRow.lifted == Tryz.pinned.checked.prog.liftsFinal) = true := by kernel_rfl
theorem mk : (Tryz.pinned.checked.prog.make == some Rows.berthPlacesRow.make) = true := by kernel_rfl
theorem joined : joinedFacts Tryz.pinned.checked.prog 3 Tryz.f3 Rows.berthPlacesSpec Rows.berthPlacesRow = true := by
  unfold joinedFacts
  rw [me, li, mk]
  kernel_rfl
end Go.Proofs.YtfljkbcphmnjkaaGreat.berthPlacesJoin
