/-
  No cell of these rows narrows 'for every input' (looked for: loops, veiled, ifaces, maps, wideKeys, modest, calm, conditions, laid).
  DERIVED. THE GIVEN ROWS OF THIS SEAT. 16 by the template 'for every input the law returns true; each argument reads behind the call as it read before'; 0 by the template 'total and deterministic' (their statements: YtoapndlmbpphfaaTotals.lean).
  GIVEN WITH THE SEED: the statements are not yours to turn. If you find one false, say at which input.
  Laid BY PROGRAM, IN A SANDBOX (cutbox-rows.mjs): the forced cells as the released guide's own fill.sh prints them over the translation 057b5ac26c63c762… (all of the seat's roots in one cut). By AI agents, Wed Nov 11 2026. No macro, syntax, notation, axiom, sorry.
-/
import Derived.Test.YtoapndlmbpphfaaChecked
import GoSem.Claim
import GoSem.ClaimJoined
import GoSem.ClaimMapViews
import Derived.JoinedTies
import Derived.KernelRfl
namespace Go.Proofs.Ytoapndlmbpphfaa
/- THE CELL 'sum', in the pinned program and in every row, IS THE sha256 OF THE DUMP (.gsa) THAT YtoapndlmbpphfaaProg.lean LOADS. Nothing in Lean hashes anything: it is a label: what it is worth is what the hold of that sum in a sandbox is worth. -/
noncomputable def Try.pinned : Pinned := { name := "ytoapndlmbpphfaa", sum := "057b5ac26c63c76225494030e3d13e5808bed6de56d103715d0a9d29efad500e", checked := Try.checked }
namespace Rows
def none {H : Type} : Left H := { results := [], args := [] }

/-- 'couchettelaw09.CoinSplits': WHATEVER THE INPUT: true; the input reads as it did. -/
def coinSplitsSpec : ChangeSpec := { name := "coinSplits", fn := fun _ => fun
  | [d1, d2, d3] => { results := [.lit (.bool true)], args := [d1, d2, d3] }
  | _ => none }
def coinSplitsRow : OpenClaim := { program := "ytoapndlmbpphfaa", sum := "057b5ac26c63c76225494030e3d13e5808bed6de56d103715d0a9d29efad500e", func := "couchette/couchettelaw09.CoinSplits", spec := "coinSplits", unfollowed := true, recurses := true, apart := false }
def CoinSplitsSaid : Prop := coinSplitsRow.holds Try.pinned (OpenSpec.ofChange coinSplitsSpec)

/-- ITS FALSE NEIGHBOUR: 'it returns false'. Refute it at one input. -/
def coinSplitsWrong : ChangeSpec := { name := "coinSplits", fn := fun _ => fun
  | [d1, d2, d3] => { results := [.lit (.bool false)], args := [d1, d2, d3] }
  | _ => none }
def CoinSplitsWrongFalsely : Prop := coinSplitsRow.holds Try.pinned (OpenSpec.ofChange coinSplitsWrong)

/-- 'couchettelaw09.CoinPieces': WHATEVER THE INPUT: true; the input reads as it did. -/
def coinPiecesSpec : ChangeSpec := { name := "coinPieces", fn := fun _ => fun
  | [d] => { results := [.lit (.bool true)], args := [d] }
  | _ => none }
def coinPiecesRow : OpenClaim := { program := "ytoapndlmbpphfaa", sum := "057b5ac26c63c76225494030e3d13e5808bed6de56d103715d0a9d29efad500e", func := "couchette/couchettelaw09.CoinPieces", spec := "coinPieces", unfollowed := true, recurses := true, apart := false }
def CoinPiecesSaid : Prop := coinPiecesRow.holds Try.pinned (OpenSpec.ofChange coinPiecesSpec)

/-- ITS FALSE NEIGHBOUR: 'it returns false'. Refute it at one input. -/
def coinPiecesWrong : ChangeSpec := { name := "coinPieces", fn := fun _ => fun
  | [d] => { results := [.lit (.bool false)], args := [d] }
  | _ => none }
def CoinPiecesWrongFalsely : Prop := coinPiecesRow.holds Try.pinned (OpenSpec.ofChange coinPiecesWrong)

/-- 'couchettelaw09.CoinWrong': WHATEVER THE INPUT: true; the input reads as it did. -/
def coinWrongSpec : ChangeSpec := { name := "coinWrong", fn := fun _ => fun
  | [d] => { results := [.lit (.bool true)], args := [d] }
  | _ => none }
def coinWrongRow : OpenClaim := { program := "ytoapndlmbpphfaa", sum := "057b5ac26c63c76225494030e3d13e5808bed6de56d103715d0a9d29efad500e", func := "couchette/couchettelaw09.CoinWrong", spec := "coinWrong", unfollowed := true, recurses := true, apart := false }
def CoinWrongSaid : Prop := coinWrongRow.holds Try.pinned (OpenSpec.ofChange coinWrongSpec)

/-- ITS FALSE NEIGHBOUR: 'it returns false'. Refute it at one input. -/
def coinWrongWrong : ChangeSpec := { name := "coinWrong", fn := fun _ => fun
  | [d] => { results := [.lit (.bool false)], args := [d] }
  | _ => none }
def CoinWrongWrongFalsely : Prop := coinWrongRow.holds Try.pinned (OpenSpec.ofChange coinWrongWrong)

/-- 'couchettelaw09.CoinSplit': WHATEVER THE INPUT: true; the input reads as it did. -/
def coinSplitSpec : ChangeSpec := { name := "coinSplit", fn := fun _ => fun
  | [d] => { results := [.lit (.bool true)], args := [d] }
  | _ => none }
def coinSplitRow : OpenClaim := { program := "ytoapndlmbpphfaa", sum := "057b5ac26c63c76225494030e3d13e5808bed6de56d103715d0a9d29efad500e", func := "couchette/couchettelaw09.CoinSplit", spec := "coinSplit", unfollowed := true, recurses := true, apart := false }
def CoinSplitSaid : Prop := coinSplitRow.holds Try.pinned (OpenSpec.ofChange coinSplitSpec)

/-- ITS FALSE NEIGHBOUR: 'it returns false'. Refute it at one input. -/
def coinSplitWrong : ChangeSpec := { name := "coinSplit", fn := fun _ => fun
  | [d] => { results := [.lit (.bool false)], args := [d] }
  | _ => none }
def CoinSplitWrongFalsely : Prop := coinSplitRow.holds Try.pinned (OpenSpec.ofChange coinSplitWrong)

/-- 'couchettelaw09.CoinGains': WHATEVER THE INPUT: true; the input reads as it did. -/
def coinGainsSpec : ChangeSpec := { name := "coinGains", fn := fun _ => fun
  | [d] => { results := [.lit (.bool true)], args := [d] }
  | _ => none }
def coinGainsRow : OpenClaim := { program := "ytoapndlmbpphfaa", sum := "057b5ac26c63c76225494030e3d13e5808bed6de56d103715d0a9d29efad500e", func := "couchette/couchettelaw09.CoinGains", spec := "coinGains", unfollowed := true, recurses := true, apart := false }
def CoinGainsSaid : Prop := coinGainsRow.holds Try.pinned (OpenSpec.ofChange coinGainsSpec)

/-- ITS FALSE NEIGHBOUR: 'it returns false'. Refute it at one input. -/
def coinGainsWrong : ChangeSpec := { name := "coinGains", fn := fun _ => fun
  | [d] => { results := [.lit (.bool false)], args := [d] }
  | _ => none }
def CoinGainsWrongFalsely : Prop := coinGainsRow.holds Try.pinned (OpenSpec.ofChange coinGainsWrong)

/-- 'couchettelaw09.CoinWorths': WHATEVER THE INPUT: true; the input reads as it did. -/
def coinWorthsSpec : ChangeSpec := { name := "coinWorths", fn := fun _ => fun
  | [d1, d2, d3, d4, d5, d6, d7] => { results := [.lit (.bool true)], args := [d1, d2, d3, d4, d5, d6, d7] }
  | _ => none }
def coinWorthsRow : OpenClaim := { program := "ytoapndlmbpphfaa", sum := "057b5ac26c63c76225494030e3d13e5808bed6de56d103715d0a9d29efad500e", func := "couchette/couchettelaw09.CoinWorths", spec := "coinWorths", unfollowed := true, recurses := true, apart := false }
def CoinWorthsSaid : Prop := coinWorthsRow.holds Try.pinned (OpenSpec.ofChange coinWorthsSpec)

/-- ITS FALSE NEIGHBOUR: 'it returns false'. Refute it at one input. -/
def coinWorthsWrong : ChangeSpec := { name := "coinWorths", fn := fun _ => fun
  | [d1, d2, d3, d4, d5, d6, d7] => { results := [.lit (.bool false)], args := [d1, d2, d3, d4, d5, d6, d7] }
  | _ => none }
def CoinWorthsWrongFalsely : Prop := coinWorthsRow.holds Try.pinned (OpenSpec.ofChange coinWorthsWrong)

/-- 'couchettelaw09.CoinBalanced': WHATEVER THE INPUT: true; the input reads as it did. -/
def coinBalancedSpec : ChangeSpec := { name := "coinBalanced", fn := fun _ => fun
  | [d] => { results := [.lit (.bool true)], args := [d] }
  | _ => none }
def coinBalancedRow : OpenClaim := { program := "ytoapndlmbpphfaa", sum := "057b5ac26c63c76225494030e3d13e5808bed6de56d103715d0a9d29efad500e", func := "couchette/couchettelaw09.CoinBalanced", spec := "coinBalanced", unfollowed := true, recurses := true, apart := false }
def CoinBalancedSaid : Prop := coinBalancedRow.holds Try.pinned (OpenSpec.ofChange coinBalancedSpec)

/-- ITS FALSE NEIGHBOUR: 'it returns false'. Refute it at one input. -/
def coinBalancedWrong : ChangeSpec := { name := "coinBalanced", fn := fun _ => fun
  | [d] => { results := [.lit (.bool false)], args := [d] }
  | _ => none }
def CoinBalancedWrongFalsely : Prop := coinBalancedRow.holds Try.pinned (OpenSpec.ofChange coinBalancedWrong)

/-- 'couchettelaw09.CoinSwapped': WHATEVER THE INPUT: true; the input reads as it did. -/
def coinSwappedSpec : ChangeSpec := { name := "coinSwapped", fn := fun _ => fun
  | [d] => { results := [.lit (.bool true)], args := [d] }
  | _ => none }
def coinSwappedRow : OpenClaim := { program := "ytoapndlmbpphfaa", sum := "057b5ac26c63c76225494030e3d13e5808bed6de56d103715d0a9d29efad500e", func := "couchette/couchettelaw09.CoinSwapped", spec := "coinSwapped", unfollowed := true, recurses := true, apart := false }
def CoinSwappedSaid : Prop := coinSwappedRow.holds Try.pinned (OpenSpec.ofChange coinSwappedSpec)

/-- ITS FALSE NEIGHBOUR: 'it returns false'. Refute it at one input. -/
def coinSwappedWrong : ChangeSpec := { name := "coinSwapped", fn := fun _ => fun
  | [d] => { results := [.lit (.bool false)], args := [d] }
  | _ => none }
def CoinSwappedWrongFalsely : Prop := coinSwappedRow.holds Try.pinned (OpenSpec.ofChange coinSwappedWrong)

/-- 'couchettelaw09.CoinScaled': WHATEVER THE INPUT: true; the input reads as it did. -/
def coinScaledSpec : ChangeSpec := { name := "coinScaled", fn := fun _ => fun
  | [d] => { results := [.lit (.bool true)], args := [d] }
  | _ => none }
def coinScaledRow : OpenClaim := { program := "ytoapndlmbpphfaa", sum := "057b5ac26c63c76225494030e3d13e5808bed6de56d103715d0a9d29efad500e", func := "couchette/couchettelaw09.CoinScaled", spec := "coinScaled", unfollowed := true, recurses := true, apart := false }
def CoinScaledSaid : Prop := coinScaledRow.holds Try.pinned (OpenSpec.ofChange coinScaledSpec)

/-- ITS FALSE NEIGHBOUR: 'it returns false'. Refute it at one input. -/
def coinScaledWrong : ChangeSpec := { name := "coinScaled", fn := fun _ => fun
  | [d] => { results := [.lit (.bool false)], args := [d] }
  | _ => none }
def CoinScaledWrongFalsely : Prop := coinScaledRow.holds Try.pinned (OpenSpec.ofChange coinScaledWrong)

/-- 'couchettelaw09.CoinAccounts': WHATEVER THE INPUT: true; the input reads as it did. -/
def coinAccountsSpec : ChangeSpec := { name := "coinAccounts", fn := fun _ => fun
  | [d1, d2, d3, d4] => { results := [.lit (.bool true)], args := [d1, d2, d3, d4] }
  | _ => none }
def coinAccountsRow : OpenClaim := { program := "ytoapndlmbpphfaa", sum := "057b5ac26c63c76225494030e3d13e5808bed6de56d103715d0a9d29efad500e", func := "couchette/couchettelaw09.CoinAccounts", spec := "coinAccounts", unfollowed := true, recurses := true, apart := false }
def CoinAccountsSaid : Prop := coinAccountsRow.holds Try.pinned (OpenSpec.ofChange coinAccountsSpec)

/-- ITS FALSE NEIGHBOUR: 'it returns false'. Refute it at one input. -/
def coinAccountsWrong : ChangeSpec := { name := "coinAccounts", fn := fun _ => fun
  | [d1, d2, d3, d4] => { results := [.lit (.bool false)], args := [d1, d2, d3, d4] }
  | _ => none }
def CoinAccountsWrongFalsely : Prop := coinAccountsRow.holds Try.pinned (OpenSpec.ofChange coinAccountsWrong)

/-- 'couchettelaw09.CoinWays': WHATEVER THE INPUT: true; the input reads as it did. -/
def coinWaysSpec : ChangeSpec := { name := "coinWays", fn := fun _ => fun
  | [d1, d2, d3, d4, d5, d6, d7] => { results := [.lit (.bool true)], args := [d1, d2, d3, d4, d5, d6, d7] }
  | _ => none }
def coinWaysRow : OpenClaim := { program := "ytoapndlmbpphfaa", sum := "057b5ac26c63c76225494030e3d13e5808bed6de56d103715d0a9d29efad500e", func := "couchette/couchettelaw09.CoinWays", spec := "coinWays", unfollowed := true, recurses := true, apart := false }
def CoinWaysSaid : Prop := coinWaysRow.holds Try.pinned (OpenSpec.ofChange coinWaysSpec)

/-- ITS FALSE NEIGHBOUR: 'it returns false'. Refute it at one input. -/
def coinWaysWrong : ChangeSpec := { name := "coinWays", fn := fun _ => fun
  | [d1, d2, d3, d4, d5, d6, d7] => { results := [.lit (.bool false)], args := [d1, d2, d3, d4, d5, d6, d7] }
  | _ => none }
def CoinWaysWrongFalsely : Prop := coinWaysRow.holds Try.pinned (OpenSpec.ofChange coinWaysWrong)

/-- 'couchettelaw09.CoinBest': WHATEVER THE INPUT: true; the input reads as it did. -/
def coinBestSpec : ChangeSpec := { name := "coinBest", fn := fun _ => fun
  | [d] => { results := [.lit (.bool true)], args := [d] }
  | _ => none }
def coinBestRow : OpenClaim := { program := "ytoapndlmbpphfaa", sum := "057b5ac26c63c76225494030e3d13e5808bed6de56d103715d0a9d29efad500e", func := "couchette/couchettelaw09.CoinBest", spec := "coinBest", unfollowed := true, recurses := true, apart := false }
def CoinBestSaid : Prop := coinBestRow.holds Try.pinned (OpenSpec.ofChange coinBestSpec)

/-- ITS FALSE NEIGHBOUR: 'it returns false'. Refute it at one input. -/
def coinBestWrong : ChangeSpec := { name := "coinBest", fn := fun _ => fun
  | [d] => { results := [.lit (.bool false)], args := [d] }
  | _ => none }
def CoinBestWrongFalsely : Prop := coinBestRow.holds Try.pinned (OpenSpec.ofChange coinBestWrong)

/-- 'couchettelaw09.CoinChanges': WHATEVER THE INPUT: true; the input reads as it did. -/
def coinChangesSpec : ChangeSpec := { name := "coinChanges", fn := fun _ => fun
  | [d1, d2, d3, d4, d5] => { results := [.lit (.bool true)], args := [d1, d2, d3, d4, d5] }
  | _ => none }
def coinChangesRow : OpenClaim := { program := "ytoapndlmbpphfaa", sum := "057b5ac26c63c76225494030e3d13e5808bed6de56d103715d0a9d29efad500e", func := "couchette/couchettelaw09.CoinChanges", spec := "coinChanges", unfollowed := true, recurses := true, apart := false }
def CoinChangesSaid : Prop := coinChangesRow.holds Try.pinned (OpenSpec.ofChange coinChangesSpec)

/-- ITS FALSE NEIGHBOUR: 'it returns false'. Refute it at one input. -/
def coinChangesWrong : ChangeSpec := { name := "coinChanges", fn := fun _ => fun
  | [d1, d2, d3, d4, d5] => { results := [.lit (.bool false)], args := [d1, d2, d3, d4, d5] }
  | _ => none }
def CoinChangesWrongFalsely : Prop := coinChangesRow.holds Try.pinned (OpenSpec.ofChange coinChangesWrong)

/-- 'couchettelaw09.CoinDrawer': WHATEVER THE INPUT: true; the input reads as it did. -/
def coinDrawerSpec : ChangeSpec := { name := "coinDrawer", fn := fun _ => fun
  | [d] => { results := [.lit (.bool true)], args := [d] }
  | _ => none }
def coinDrawerRow : OpenClaim := { program := "ytoapndlmbpphfaa", sum := "057b5ac26c63c76225494030e3d13e5808bed6de56d103715d0a9d29efad500e", func := "couchette/couchettelaw09.CoinDrawer", spec := "coinDrawer", unfollowed := true, recurses := true, apart := false }
def CoinDrawerSaid : Prop := coinDrawerRow.holds Try.pinned (OpenSpec.ofChange coinDrawerSpec)

/-- ITS FALSE NEIGHBOUR: 'it returns false'. Refute it at one input. -/
def coinDrawerWrong : ChangeSpec := { name := "coinDrawer", fn := fun _ => fun
  | [d] => { results := [.lit (.bool false)], args := [d] }
  | _ => none }
def CoinDrawerWrongFalsely : Prop := coinDrawerRow.holds Try.pinned (OpenSpec.ofChange coinDrawerWrong)

/-- 'couchettelaw09.CoinPays': WHATEVER THE INPUT: true; the input reads as it did. -/
def coinPaysSpec : ChangeSpec := { name := "coinPays", fn := fun _ => fun
  | [d1, d2, d3, d4, d5, d6] => { results := [.lit (.bool true)], args := [d1, d2, d3, d4, d5, d6] }
  | _ => none }
def coinPaysRow : OpenClaim := { program := "ytoapndlmbpphfaa", sum := "057b5ac26c63c76225494030e3d13e5808bed6de56d103715d0a9d29efad500e", func := "couchette/couchettelaw09.CoinPays", spec := "coinPays", unfollowed := true, recurses := true, apart := false }
def CoinPaysSaid : Prop := coinPaysRow.holds Try.pinned (OpenSpec.ofChange coinPaysSpec)

/-- ITS FALSE NEIGHBOUR: 'it returns false'. Refute it at one input. -/
def coinPaysWrong : ChangeSpec := { name := "coinPays", fn := fun _ => fun
  | [d1, d2, d3, d4, d5, d6] => { results := [.lit (.bool false)], args := [d1, d2, d3, d4, d5, d6] }
  | _ => none }
def CoinPaysWrongFalsely : Prop := coinPaysRow.holds Try.pinned (OpenSpec.ofChange coinPaysWrong)

/-- 'couchettelaw09.CoinPaid': WHATEVER THE INPUT: true; the input reads as it did. -/
def coinPaidSpec : ChangeSpec := { name := "coinPaid", fn := fun _ => fun
  | [d] => { results := [.lit (.bool true)], args := [d] }
  | _ => none }
def coinPaidRow : OpenClaim := { program := "ytoapndlmbpphfaa", sum := "057b5ac26c63c76225494030e3d13e5808bed6de56d103715d0a9d29efad500e", func := "couchette/couchettelaw09.CoinPaid", spec := "coinPaid", unfollowed := true, recurses := true, apart := false }
def CoinPaidSaid : Prop := coinPaidRow.holds Try.pinned (OpenSpec.ofChange coinPaidSpec)

/-- ITS FALSE NEIGHBOUR: 'it returns false'. Refute it at one input. -/
def coinPaidWrong : ChangeSpec := { name := "coinPaid", fn := fun _ => fun
  | [d] => { results := [.lit (.bool false)], args := [d] }
  | _ => none }
def CoinPaidWrongFalsely : Prop := coinPaidRow.holds Try.pinned (OpenSpec.ofChange coinPaidWrong)

/- THE SECOND FORM. 'bulk': how many values and letters a reading holds, each counted each time it is reached (what is shared counts as often as it is met; a slice's spare places count too). A statement '..UptoSaid' is the law's where the arguments, and the package variables that the reading takes, are together of bulk at most 1048576: NARROWER than '..Said'. Prove '..Said' where nothing that the law and all that it calls make is longer than what came in: it says more and counts as full. Else prove '..UptoSaid'. A law counts once. -/
mutual
def uptoBulk {H : Type} : DataW H → Nat
  | .lit (.string bytes) => bytes.length + 1
  | .lit _ => 1
  | .nil => 1
  | .ptr d => uptoBulk d + 1
  | .slice elems spare => uptoBulkAll elems + uptoBulkAll spare + 1
  | .agg parts => uptoBulkAll parts + 1
  | .iface _ d => uptoBulk d + 1
  | .map entries => uptoBulkEntries entries + 1
  | .held _ => 1
def uptoBulkAll {H : Type} : List (DataW H) → Nat
  | [] => 0
  | d :: r => uptoBulk d + uptoBulkAll r
def uptoBulkEntries {H : Type} : List (Lit × DataW H) → Nat
  | [] => 0
  | x :: r => uptoBulkEntry x + uptoBulkEntries r
def uptoBulkEntry {H : Type} : Lit × DataW H → Nat
  | (.string bytes, d) => bytes.length + uptoBulk d + 1
  | (_, d) => uptoBulk d + 1
 end
def uptoSmall : (H : Type) → List (DataW H) → Bool := fun _ ds => decide (uptoBulkAll ds ≤ 1048576)
def OpenSpec.upto (s : _root_.Go.ChangeSpec) : _root_.Go.OpenSpec := { _root_.Go.OpenSpec.ofChange s with cond := some uptoSmall }

/-- 'couchettelaw09.CoinSplits', WHERE WHAT IT READS IS OF BULK AT MOST 1048576: true; the input reads as it did. -/
def coinSplitsUptoRow : OpenClaim := { program := "ytoapndlmbpphfaa", sum := "057b5ac26c63c76225494030e3d13e5808bed6de56d103715d0a9d29efad500e", func := "couchette/couchettelaw09.CoinSplits", spec := "coinSplits", unfollowed := true, recurses := true, apart := false, narrowed := true }
def CoinSplitsUptoSaid : Prop := coinSplitsUptoRow.holds Try.pinned (OpenSpec.upto coinSplitsSpec)

/-- 'couchettelaw09.CoinPieces', WHERE WHAT IT READS IS OF BULK AT MOST 1048576: true; the input reads as it did. -/
def coinPiecesUptoRow : OpenClaim := { program := "ytoapndlmbpphfaa", sum := "057b5ac26c63c76225494030e3d13e5808bed6de56d103715d0a9d29efad500e", func := "couchette/couchettelaw09.CoinPieces", spec := "coinPieces", unfollowed := true, recurses := true, apart := false, narrowed := true }
def CoinPiecesUptoSaid : Prop := coinPiecesUptoRow.holds Try.pinned (OpenSpec.upto coinPiecesSpec)

/-- 'couchettelaw09.CoinWrong', WHERE WHAT IT READS IS OF BULK AT MOST 1048576: true; the input reads as it did. -/
def coinWrongUptoRow : OpenClaim := { program := "ytoapndlmbpphfaa", sum := "057b5ac26c63c76225494030e3d13e5808bed6de56d103715d0a9d29efad500e", func := "couchette/couchettelaw09.CoinWrong", spec := "coinWrong", unfollowed := true, recurses := true, apart := false, narrowed := true }
def CoinWrongUptoSaid : Prop := coinWrongUptoRow.holds Try.pinned (OpenSpec.upto coinWrongSpec)

/-- 'couchettelaw09.CoinSplit', WHERE WHAT IT READS IS OF BULK AT MOST 1048576: true; the input reads as it did. -/
def coinSplitUptoRow : OpenClaim := { program := "ytoapndlmbpphfaa", sum := "057b5ac26c63c76225494030e3d13e5808bed6de56d103715d0a9d29efad500e", func := "couchette/couchettelaw09.CoinSplit", spec := "coinSplit", unfollowed := true, recurses := true, apart := false, narrowed := true }
def CoinSplitUptoSaid : Prop := coinSplitUptoRow.holds Try.pinned (OpenSpec.upto coinSplitSpec)

/-- 'couchettelaw09.CoinGains', WHERE WHAT IT READS IS OF BULK AT MOST 1048576: true; the input reads as it did. -/
def coinGainsUptoRow : OpenClaim := { program := "ytoapndlmbpphfaa", sum := "057b5ac26c63c76225494030e3d13e5808bed6de56d103715d0a9d29efad500e", func := "couchette/couchettelaw09.CoinGains", spec := "coinGains", unfollowed := true, recurses := true, apart := false, narrowed := true }
def CoinGainsUptoSaid : Prop := coinGainsUptoRow.holds Try.pinned (OpenSpec.upto coinGainsSpec)

/-- 'couchettelaw09.CoinWorths', WHERE WHAT IT READS IS OF BULK AT MOST 1048576: true; the input reads as it did. -/
def coinWorthsUptoRow : OpenClaim := { program := "ytoapndlmbpphfaa", sum := "057b5ac26c63c76225494030e3d13e5808bed6de56d103715d0a9d29efad500e", func := "couchette/couchettelaw09.CoinWorths", spec := "coinWorths", unfollowed := true, recurses := true, apart := false, narrowed := true }
def CoinWorthsUptoSaid : Prop := coinWorthsUptoRow.holds Try.pinned (OpenSpec.upto coinWorthsSpec)

/-- 'couchettelaw09.CoinBalanced', WHERE WHAT IT READS IS OF BULK AT MOST 1048576: true; the input reads as it did. -/
def coinBalancedUptoRow : OpenClaim := { program := "ytoapndlmbpphfaa", sum := "057b5ac26c63c76225494030e3d13e5808bed6de56d103715d0a9d29efad500e", func := "couchette/couchettelaw09.CoinBalanced", spec := "coinBalanced", unfollowed := true, recurses := true, apart := false, narrowed := true }
def CoinBalancedUptoSaid : Prop := coinBalancedUptoRow.holds Try.pinned (OpenSpec.upto coinBalancedSpec)

/-- 'couchettelaw09.CoinSwapped', WHERE WHAT IT READS IS OF BULK AT MOST 1048576: true; the input reads as it did. -/
def coinSwappedUptoRow : OpenClaim := { program := "ytoapndlmbpphfaa", sum := "057b5ac26c63c76225494030e3d13e5808bed6de56d103715d0a9d29efad500e", func := "couchette/couchettelaw09.CoinSwapped", spec := "coinSwapped", unfollowed := true, recurses := true, apart := false, narrowed := true }
def CoinSwappedUptoSaid : Prop := coinSwappedUptoRow.holds Try.pinned (OpenSpec.upto coinSwappedSpec)

/-- 'couchettelaw09.CoinScaled', WHERE WHAT IT READS IS OF BULK AT MOST 1048576: true; the input reads as it did. -/
def coinScaledUptoRow : OpenClaim := { program := "ytoapndlmbpphfaa", sum := "057b5ac26c63c76225494030e3d13e5808bed6de56d103715d0a9d29efad500e", func := "couchette/couchettelaw09.CoinScaled", spec := "coinScaled", unfollowed := true, recurses := true, apart := false, narrowed := true }
def CoinScaledUptoSaid : Prop := coinScaledUptoRow.holds Try.pinned (OpenSpec.upto coinScaledSpec)

/-- 'couchettelaw09.CoinAccounts', WHERE WHAT IT READS IS OF BULK AT MOST 1048576: true; the input reads as it did. -/
def coinAccountsUptoRow : OpenClaim := { program := "ytoapndlmbpphfaa", sum := "057b5ac26c63c76225494030e3d13e5808bed6de56d103715d0a9d29efad500e", func := "couchette/couchettelaw09.CoinAccounts", spec := "coinAccounts", unfollowed := true, recurses := true, apart := false, narrowed := true }
def CoinAccountsUptoSaid : Prop := coinAccountsUptoRow.holds Try.pinned (OpenSpec.upto coinAccountsSpec)

/-- 'couchettelaw09.CoinWays', WHERE WHAT IT READS IS OF BULK AT MOST 1048576: true; the input reads as it did. -/
def coinWaysUptoRow : OpenClaim := { program := "ytoapndlmbpphfaa", sum := "057b5ac26c63c76225494030e3d13e5808bed6de56d103715d0a9d29efad500e", func := "couchette/couchettelaw09.CoinWays", spec := "coinWays", unfollowed := true, recurses := true, apart := false, narrowed := true }
def CoinWaysUptoSaid : Prop := coinWaysUptoRow.holds Try.pinned (OpenSpec.upto coinWaysSpec)

/-- 'couchettelaw09.CoinBest', WHERE WHAT IT READS IS OF BULK AT MOST 1048576: true; the input reads as it did. -/
def coinBestUptoRow : OpenClaim := { program := "ytoapndlmbpphfaa", sum := "057b5ac26c63c76225494030e3d13e5808bed6de56d103715d0a9d29efad500e", func := "couchette/couchettelaw09.CoinBest", spec := "coinBest", unfollowed := true, recurses := true, apart := false, narrowed := true }
def CoinBestUptoSaid : Prop := coinBestUptoRow.holds Try.pinned (OpenSpec.upto coinBestSpec)

/-- 'couchettelaw09.CoinChanges', WHERE WHAT IT READS IS OF BULK AT MOST 1048576: true; the input reads as it did. -/
def coinChangesUptoRow : OpenClaim := { program := "ytoapndlmbpphfaa", sum := "057b5ac26c63c76225494030e3d13e5808bed6de56d103715d0a9d29efad500e", func := "couchette/couchettelaw09.CoinChanges", spec := "coinChanges", unfollowed := true, recurses := true, apart := false, narrowed := true }
def CoinChangesUptoSaid : Prop := coinChangesUptoRow.holds Try.pinned (OpenSpec.upto coinChangesSpec)

/-- 'couchettelaw09.CoinDrawer', WHERE WHAT IT READS IS OF BULK AT MOST 1048576: true; the input reads as it did. -/
def coinDrawerUptoRow : OpenClaim := { program := "ytoapndlmbpphfaa", sum := "057b5ac26c63c76225494030e3d13e5808bed6de56d103715d0a9d29efad500e", func := "couchette/couchettelaw09.CoinDrawer", spec := "coinDrawer", unfollowed := true, recurses := true, apart := false, narrowed := true }
def CoinDrawerUptoSaid : Prop := coinDrawerUptoRow.holds Try.pinned (OpenSpec.upto coinDrawerSpec)

/-- 'couchettelaw09.CoinPays', WHERE WHAT IT READS IS OF BULK AT MOST 1048576: true; the input reads as it did. -/
def coinPaysUptoRow : OpenClaim := { program := "ytoapndlmbpphfaa", sum := "057b5ac26c63c76225494030e3d13e5808bed6de56d103715d0a9d29efad500e", func := "couchette/couchettelaw09.CoinPays", spec := "coinPays", unfollowed := true, recurses := true, apart := false, narrowed := true }
def CoinPaysUptoSaid : Prop := coinPaysUptoRow.holds Try.pinned (OpenSpec.upto coinPaysSpec)

/-- 'couchettelaw09.CoinPaid', WHERE WHAT IT READS IS OF BULK AT MOST 1048576: true; the input reads as it did. -/
def coinPaidUptoRow : OpenClaim := { program := "ytoapndlmbpphfaa", sum := "057b5ac26c63c76225494030e3d13e5808bed6de56d103715d0a9d29efad500e", func := "couchette/couchettelaw09.CoinPaid", spec := "coinPaid", unfollowed := true, recurses := true, apart := false, narrowed := true }
def CoinPaidUptoSaid : Prop := coinPaidUptoRow.holds Try.pinned (OpenSpec.upto coinPaidSpec)

end Rows
end Go.Proofs.Ytoapndlmbpphfaa
