/-
  No cell of these rows narrows 'for every input' (looked for: loops, veiled, ifaces, maps, wideKeys, modest, calm, conditions, laid).
  DERIVED. THE GIVEN ROWS OF THIS SEAT. 5 by the template 'for every input the law returns true; each argument reads behind the call as it read before'; 0 by the template 'total and deterministic' (their statements: YtfljkbcphmnjkaaGreatTotals.lean).
  GIVEN WITH THE SEED: the statements are not yours to turn. If you find one false, say at which input.
  Laid BY PROGRAM, IN A SANDBOX (cutbox-rows.mjs): the forced cells as the released guide's own fill.sh prints them over the translation 118ce4829e044b59… (all of the seat's roots in one cut). By AI agents, Wed Nov 11 2026. No macro, syntax, notation, axiom, sorry.
-/
import Derived.Test.YtfljkbcphmnjkaaGreatChecked
import GoSem.Claim
import GoSem.ClaimJoined
import GoSem.ClaimMapViews
import Derived.JoinedTies
import Derived.KernelRfl
namespace Go.Proofs.YtfljkbcphmnjkaaGreat
/- THE CELL 'sum', in the pinned program and in every row, IS THE sha256 OF THE DUMP (.gsa) THAT YtfljkbcphmnjkaaGreatProg.lean LOADS. Nothing in Lean hashes anything: it is a label: what it is worth is what the hold of that sum in a sandbox is worth. -/
noncomputable def Tryz.pinned : Pinned := { name := "ytfljkbcphmnjkaagreat", sum := "118ce4829e044b59b9e6ae262fc0c9cd5da0c38ada5c5d2a382fd66ac5663964", checked := Tryz.checked }
namespace Rows
def none {H : Type} : Left H := { results := [], args := [] }

/-- 'couchettelaw05.BerthPlaces': WHATEVER THE INPUT: true; the input reads as it did. -/
def berthPlacesSpec : ChangeSpec := { name := "berthPlaces", fn := fun _ => fun
  | [d1, d2, d3] => { results := [.lit (.bool true)], args := [d1, d2, d3] }
  | _ => none }
def berthPlacesRow : OpenClaim := { program := "ytfljkbcphmnjkaagreat", sum := "118ce4829e044b59b9e6ae262fc0c9cd5da0c38ada5c5d2a382fd66ac5663964", func := "couchette/couchettelaw05.BerthPlaces", spec := "berthPlaces", unfollowed := true, recurses := true, plainKeys := false, apart := false }
def BerthPlacesSaid : Prop := berthPlacesRow.holds Tryz.pinned (OpenSpec.ofChange berthPlacesSpec)

/-- ITS FALSE NEIGHBOUR: 'it returns false'. Refute it at one input. -/
def berthPlacesWrong : ChangeSpec := { name := "berthPlaces", fn := fun _ => fun
  | [d1, d2, d3] => { results := [.lit (.bool false)], args := [d1, d2, d3] }
  | _ => none }
def BerthPlacesWrongFalsely : Prop := berthPlacesRow.holds Tryz.pinned (OpenSpec.ofChange berthPlacesWrong)

/-- 'couchettelaw05.BerthTransfers': WHATEVER THE INPUT: true; the input reads as it did. -/
def berthTransfersSpec : ChangeSpec := { name := "berthTransfers", fn := fun _ => fun
  | [d1, d2, d3] => { results := [.lit (.bool true)], args := [d1, d2, d3] }
  | _ => none }
def berthTransfersRow : OpenClaim := { program := "ytfljkbcphmnjkaagreat", sum := "118ce4829e044b59b9e6ae262fc0c9cd5da0c38ada5c5d2a382fd66ac5663964", func := "couchette/couchettelaw05.BerthTransfers", spec := "berthTransfers", unfollowed := true, recurses := true, plainKeys := false, apart := false }
def BerthTransfersSaid : Prop := berthTransfersRow.holds Tryz.pinned (OpenSpec.ofChange berthTransfersSpec)

/-- ITS FALSE NEIGHBOUR: 'it returns false'. Refute it at one input. -/
def berthTransfersWrong : ChangeSpec := { name := "berthTransfers", fn := fun _ => fun
  | [d1, d2, d3] => { results := [.lit (.bool false)], args := [d1, d2, d3] }
  | _ => none }
def BerthTransfersWrongFalsely : Prop := berthTransfersRow.holds Tryz.pinned (OpenSpec.ofChange berthTransfersWrong)

/-- 'couchettelaw05.BerthChanges': WHATEVER THE INPUT: true; the input reads as it did. -/
def berthChangesSpec : ChangeSpec := { name := "berthChanges", fn := fun _ => fun
  | [d1, d2, d3, d4, d5, d6] => { results := [.lit (.bool true)], args := [d1, d2, d3, d4, d5, d6] }
  | _ => none }
def berthChangesRow : OpenClaim := { program := "ytfljkbcphmnjkaagreat", sum := "118ce4829e044b59b9e6ae262fc0c9cd5da0c38ada5c5d2a382fd66ac5663964", func := "couchette/couchettelaw05.BerthChanges", spec := "berthChanges", unfollowed := true, recurses := true, plainKeys := false, apart := false }
def BerthChangesSaid : Prop := berthChangesRow.holds Tryz.pinned (OpenSpec.ofChange berthChangesSpec)

/-- ITS FALSE NEIGHBOUR: 'it returns false'. Refute it at one input. -/
def berthChangesWrong : ChangeSpec := { name := "berthChanges", fn := fun _ => fun
  | [d1, d2, d3, d4, d5, d6] => { results := [.lit (.bool false)], args := [d1, d2, d3, d4, d5, d6] }
  | _ => none }
def BerthChangesWrongFalsely : Prop := berthChangesRow.holds Tryz.pinned (OpenSpec.ofChange berthChangesWrong)

/-- 'couchettelaw05.BerthSells': WHATEVER THE INPUT: true; the input reads as it did. -/
def berthSellsSpec : ChangeSpec := { name := "berthSells", fn := fun _ => fun
  | [d1, d2, d3, d4] => { results := [.lit (.bool true)], args := [d1, d2, d3, d4] }
  | _ => none }
def berthSellsRow : OpenClaim := { program := "ytfljkbcphmnjkaagreat", sum := "118ce4829e044b59b9e6ae262fc0c9cd5da0c38ada5c5d2a382fd66ac5663964", func := "couchette/couchettelaw05.BerthSells", spec := "berthSells", unfollowed := true, recurses := true, plainKeys := false, apart := false }
def BerthSellsSaid : Prop := berthSellsRow.holds Tryz.pinned (OpenSpec.ofChange berthSellsSpec)

/-- ITS FALSE NEIGHBOUR: 'it returns false'. Refute it at one input. -/
def berthSellsWrong : ChangeSpec := { name := "berthSells", fn := fun _ => fun
  | [d1, d2, d3, d4] => { results := [.lit (.bool false)], args := [d1, d2, d3, d4] }
  | _ => none }
def BerthSellsWrongFalsely : Prop := berthSellsRow.holds Tryz.pinned (OpenSpec.ofChange berthSellsWrong)

/-- 'couchettelaw05.BerthSeveral': WHATEVER THE INPUT: true; the input reads as it did. -/
def berthSeveralSpec : ChangeSpec := { name := "berthSeveral", fn := fun _ => fun
  | [d1, d2, d3, d4, d5] => { results := [.lit (.bool true)], args := [d1, d2, d3, d4, d5] }
  | _ => none }
def berthSeveralRow : OpenClaim := { program := "ytfljkbcphmnjkaagreat", sum := "118ce4829e044b59b9e6ae262fc0c9cd5da0c38ada5c5d2a382fd66ac5663964", func := "couchette/couchettelaw05.BerthSeveral", spec := "berthSeveral", unfollowed := true, recurses := true, plainKeys := false, apart := false }
def BerthSeveralSaid : Prop := berthSeveralRow.holds Tryz.pinned (OpenSpec.ofChange berthSeveralSpec)

/-- ITS FALSE NEIGHBOUR: 'it returns false'. Refute it at one input. -/
def berthSeveralWrong : ChangeSpec := { name := "berthSeveral", fn := fun _ => fun
  | [d1, d2, d3, d4, d5] => { results := [.lit (.bool false)], args := [d1, d2, d3, d4, d5] }
  | _ => none }
def BerthSeveralWrongFalsely : Prop := berthSeveralRow.holds Tryz.pinned (OpenSpec.ofChange berthSeveralWrong)

/- THE SECOND FORM. 'bulk': how many values and letters a reading holds, each counted each time it is reached (what is shared counts as often as it is met; a slice's spare places count too). A statement '..UptoSaid' is the law's where the arguments, and the package variables that the reading takes, are together of bulk at most 1048576: NARROWER than '..Said'. Prove '..Said' where nothing that the law and all that it calls make is longer than what came in: it says more and counts as full. Else prove '..UptoSaid'. A law counts once. -/
mutual
def uptoBulk {H : Type} : DataW H → Nat
  | .lit (.string bytes) => bytes.length + 1
  | .lit _ => 1
  | .nil => 1
  | .ptr d => uptoBulk d + 1
  | .slice elems spare => uptoBulkAll elems + uptoBulkAll spare + 1
  | .agg parts => uptoBulkAll parts + 1
  | .iface _ d => uptoBulk d + 1
  | .map entries => uptoBulkEntries entries + 1
  | .held _ => 1
def uptoBulkAll {H : Type} : List (DataW H) → Nat
  | [] => 0
  | d :: r => uptoBulk d + uptoBulkAll r
def uptoBulkEntries {H : Type} : List (Lit × DataW H) → Nat
  | [] => 0
  | x :: r => uptoBulkEntry x + uptoBulkEntries r
def uptoBulkEntry {H : Type} : Lit × DataW H → Nat
  | (.string bytes, d) => bytes.length + uptoBulk d + 1
  | (_, d) => uptoBulk d + 1
 end
def uptoSmall : (H : Type) → List (DataW H) → Bool := fun _ ds => decide (uptoBulkAll ds ≤ 1048576)
def OpenSpec.upto (s : _root_.Go.ChangeSpec) : _root_.Go.OpenSpec := { _root_.Go.OpenSpec.ofChange s with cond := some uptoSmall }

/-- 'couchettelaw05.BerthPlaces', WHERE WHAT IT READS IS OF BULK AT MOST 1048576: true; the input reads as it did. -/
def berthPlacesUptoRow : OpenClaim := { program := "ytfljkbcphmnjkaagreat", sum := "118ce4829e044b59b9e6ae262fc0c9cd5da0c38ada5c5d2a382fd66ac5663964", func := "couchette/couchettelaw05.BerthPlaces", spec := "berthPlaces", unfollowed := true, recurses := true, plainKeys := false, apart := false, narrowed := true }
def BerthPlacesUptoSaid : Prop := berthPlacesUptoRow.holds Tryz.pinned (OpenSpec.upto berthPlacesSpec)

/-- 'couchettelaw05.BerthTransfers', WHERE WHAT IT READS IS OF BULK AT MOST 1048576: true; the input reads as it did. -/
def berthTransfersUptoRow : OpenClaim := { program := "ytfljkbcphmnjkaagreat", sum := "118ce4829e044b59b9e6ae262fc0c9cd5da0c38ada5c5d2a382fd66ac5663964", func := "couchette/couchettelaw05.BerthTransfers", spec := "berthTransfers", unfollowed := true, recurses := true, plainKeys := false, apart := false, narrowed := true }
def BerthTransfersUptoSaid : Prop := berthTransfersUptoRow.holds Tryz.pinned (OpenSpec.upto berthTransfersSpec)

/-- 'couchettelaw05.BerthChanges', WHERE WHAT IT READS IS OF BULK AT MOST 1048576: true; the input reads as it did. -/
def berthChangesUptoRow : OpenClaim := { program := "ytfljkbcphmnjkaagreat", sum := "118ce4829e044b59b9e6ae262fc0c9cd5da0c38ada5c5d2a382fd66ac5663964", func := "couchette/couchettelaw05.BerthChanges", spec := "berthChanges", unfollowed := true, recurses := true, plainKeys := false, apart := false, narrowed := true }
def BerthChangesUptoSaid : Prop := berthChangesUptoRow.holds Tryz.pinned (OpenSpec.upto berthChangesSpec)

/-- 'couchettelaw05.BerthSells', WHERE WHAT IT READS IS OF BULK AT MOST 1048576: true; the input reads as it did. -/
def berthSellsUptoRow : OpenClaim := { program := "ytfljkbcphmnjkaagreat", sum := "118ce4829e044b59b9e6ae262fc0c9cd5da0c38ada5c5d2a382fd66ac5663964", func := "couchette/couchettelaw05.BerthSells", spec := "berthSells", unfollowed := true, recurses := true, plainKeys := false, apart := false, narrowed := true }
def BerthSellsUptoSaid : Prop := berthSellsUptoRow.holds Tryz.pinned (OpenSpec.upto berthSellsSpec)

/-- 'couchettelaw05.BerthSeveral', WHERE WHAT IT READS IS OF BULK AT MOST 1048576: true; the input reads as it did. -/
def berthSeveralUptoRow : OpenClaim := { program := "ytfljkbcphmnjkaagreat", sum := "118ce4829e044b59b9e6ae262fc0c9cd5da0c38ada5c5d2a382fd66ac5663964", func := "couchette/couchettelaw05.BerthSeveral", spec := "berthSeveral", unfollowed := true, recurses := true, plainKeys := false, apart := false, narrowed := true }
def BerthSeveralUptoSaid : Prop := berthSeveralUptoRow.holds Tryz.pinned (OpenSpec.upto berthSeveralSpec)

end Rows
end Go.Proofs.YtfljkbcphmnjkaaGreat
