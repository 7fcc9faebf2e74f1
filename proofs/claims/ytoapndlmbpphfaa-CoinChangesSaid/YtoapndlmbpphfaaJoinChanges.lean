/- The closed facts of the row of CoinChanges. Conditions: none. -/
import Derived.Test.YtoapndlmbpphfaaRows
import Derived.JoinedOf
namespace Go.Proofs.Ytoapndlmbpphfaa.coinChangesJoin
set_option linter.all false
theorem me : Try.pinned.checked.prog.mayEnter = true := by kernel_rfl
theorem li : (Rows.coinChangesRow.lifted == Try.pinned.checked.prog.liftsFinal) = true := by kernel_rfl
theorem mk : (Try.pinned.checked.prog.make == some Rows.coinChangesRow.make) = true := by kernel_rfl
theorem joined : joinedFacts Try.pinned.checked.prog 15 Try.f15 Rows.coinChangesSpec Rows.coinChangesRow = true := by
  unfold joinedFacts
  rw [me, li, mk]
  kernel_rfl
end Go.Proofs.Ytoapndlmbpphfaa.coinChangesJoin
