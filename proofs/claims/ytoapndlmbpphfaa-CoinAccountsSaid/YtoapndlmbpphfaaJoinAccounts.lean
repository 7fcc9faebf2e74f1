/- The closed facts of the row of CoinAccounts. Conditions: none. -/
import Derived.Test.YtoapndlmbpphfaaRows
import Derived.JoinedOf
namespace Go.Proofs.Ytoapndlmbpphfaa.coinAccountsJoin
set_option linter.all false
theorem me : Try.pinned.checked.prog.mayEnter = true := by kernel_rfl
theorem li : (Rows.coinAccountsRow.lifted == Try.pinned.checked.prog.liftsFinal) = true := by kernel_rfl
theorem mk : (Try.pinned.checked.prog.make == some Rows.coinAccountsRow.make) = true := by kernel_rfl
theorem joined : joinedFacts Try.pinned.checked.prog 12 Try.f12 Rows.coinAccountsSpec Rows.coinAccountsRow = true := by
  unfold joinedFacts
  rw [me, li, mk]
  kernel_rfl
end Go.Proofs.Ytoapndlmbpphfaa.coinAccountsJoin
