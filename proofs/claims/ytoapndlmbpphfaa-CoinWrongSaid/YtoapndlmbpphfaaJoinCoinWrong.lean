/- The closed facts of the row of CoinWrong. Conditions: none. -/
import Derived.Test.YtoapndlmbpphfaaRows
import Derived.JoinedOf
namespace Go.Proofs.Ytoapndlmbpphfaa.coinWrongJoin
set_option linter.all false
theorem me : Try.pinned.checked.prog.mayEnter = true := by kernel_rfl
theorem li : (Rows.coinWrongRow.lifted == Try.pinned.checked.prog.liftsFinal) = true := by kernel_rfl
theorem mk : (Try.pinned.checked.prog.make == some Rows.coinWrongRow.make) = true := by kernel_rfl
theorem joined : joinedFacts Try.pinned.checked.prog 5 Try.f5 Rows.coinWrongSpec Rows.coinWrongRow = true := by
  unfold joinedFacts
  rw [me, li, mk]
  kernel_rfl
end Go.Proofs.Ytoapndlmbpphfaa.coinWrongJoin
