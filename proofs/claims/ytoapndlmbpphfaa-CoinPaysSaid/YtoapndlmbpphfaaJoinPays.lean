/- The closed facts of the row of CoinPays. Conditions: none. -/
import Derived.Test.YtoapndlmbpphfaaRows
import Derived.JoinedOf
namespace Go.Proofs.Ytoapndlmbpphfaa.coinPaysJoin
set_option linter.all false
theorem me : Try.pinned.checked.prog.mayEnter = true := by kernel_rfl
theorem li : (Rows.coinPaysRow.lifted == Try.pinned.checked.prog.liftsFinal) = true := by kernel_rfl
theorem mk : (Try.pinned.checked.prog.make == some Rows.coinPaysRow.make) = true := by kernel_rfl
theorem joined : joinedFacts Try.pinned.checked.prog 17 Try.f17 Rows.coinPaysSpec Rows.coinPaysRow = true := by
  unfold joinedFacts
  rw [me, li, mk]
  kernel_rfl
end Go.Proofs.Ytoapndlmbpphfaa.coinPaysJoin
