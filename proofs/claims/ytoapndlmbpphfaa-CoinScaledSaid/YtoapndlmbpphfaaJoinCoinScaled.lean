/- The closed facts of the row of CoinScaled. Conditions: none. -/
import Derived.Test.YtoapndlmbpphfaaRows
import Derived.JoinedOf
namespace Go.Proofs.Ytoapndlmbpphfaa.coinScaledJoin
set_option linter.all false
theorem me : Try.pinned.checked.prog.mayEnter = true := by kernel_rfl
theorem li : (Rows.coinScaledRow.lifted == Try.pinned.checked.prog.liftsFinal) = true := by kernel_rfl
theorem mk : (Try.pinned.checked.prog.make == some Rows.coinScaledRow.make) = true := by kernel_rfl
theorem joined : joinedFacts Try.pinned.checked.prog 11 Try.f11 Rows.coinScaledSpec Rows.coinScaledRow = true := by
  unfold joinedFacts
  rw [me, li, mk]
  kernel_rfl
end Go.Proofs.Ytoapndlmbpphfaa.coinScaledJoin
