/-
  No cell of these rows narrows 'for every input' (looked for: loops, veiled, ifaces, maps, wideKeys, modest, calm, conditions, laid).
  DERIVED. THE GIVEN ROWS OF THIS SEAT. 12 by the template 'for every input the law returns true; each argument reads behind the call as it read before'; 0 by the template 'total and deterministic' (their statements: YtfljkbcphmnjkaaTotals.lean).
  GIVEN WITH THE SEED: the statements are not yours to turn. If you find one false, say at which input.
  Laid BY PROGRAM, IN A SANDBOX (cutbox-rows.mjs): the forced cells as the released guide's own fill.sh prints them over the translation c996e9b83fee74dd… (all of the seat's roots in one cut). By AI agents, Wed Nov 11 2026. No macro, syntax, notation, axiom, sorry.
-/
import Derived.Test.YtfljkbcphmnjkaaChecked
import GoSem.Claim
import GoSem.ClaimJoined
import GoSem.ClaimMapViews
import Derived.JoinedTies
import Derived.KernelRfl
namespace Go.Proofs.Ytfljkbcphmnjkaa
/- THE CELL 'sum', in the pinned program and in every row, IS THE sha256 OF THE DUMP (.gsa) THAT YtfljkbcphmnjkaaProg.lean LOADS. Nothing in Lean hashes anything: it is a label: what it is worth is what the hold of that sum in a sandbox is worth. -/
noncomputable def Try.pinned : Pinned := { name := "ytfljkbcphmnjkaa", sum := "c996e9b83fee74dd5ee57604b43e99ea72109e88ab7a37f4babff91b18d9337e", checked := Try.checked }
namespace Rows
def none {H : Type} : Left H := { results := [], args := [] }

/-- 'couchettelaw05.BerthNobody': WHATEVER THE INPUT: true; the input reads as it did. -/
def berthNobodySpec : ChangeSpec := { name := "berthNobody", fn := fun _ => fun
  | [d] => { results := [.lit (.bool true)], args := [d] }
  | _ => none }
def berthNobodyRow : OpenClaim := { program := "ytfljkbcphmnjkaa", sum := "c996e9b83fee74dd5ee57604b43e99ea72109e88ab7a37f4babff91b18d9337e", func := "couchette/couchettelaw05.BerthNobody", spec := "berthNobody", unfollowed := true, recurses := true, plainKeys := false, apart := false }
def BerthNobodySaid : Prop := berthNobodyRow.holds Try.pinned (OpenSpec.ofChange berthNobodySpec)

/-- ITS FALSE NEIGHBOUR: 'it returns false'. Refute it at one input. -/
def berthNobodyWrong : ChangeSpec := { name := "berthNobody", fn := fun _ => fun
  | [d] => { results := [.lit (.bool false)], args := [d] }
  | _ => none }
def BerthNobodyWrongFalsely : Prop := berthNobodyRow.holds Try.pinned (OpenSpec.ofChange berthNobodyWrong)

/-- 'couchettelaw05.BerthRest': WHATEVER THE INPUT: true; the input reads as it did. -/
def berthRestSpec : ChangeSpec := { name := "berthRest", fn := fun _ => fun
  | [d] => { results := [.lit (.bool true)], args := [d] }
  | _ => none }
def berthRestRow : OpenClaim := { program := "ytfljkbcphmnjkaa", sum := "c996e9b83fee74dd5ee57604b43e99ea72109e88ab7a37f4babff91b18d9337e", func := "couchette/couchettelaw05.BerthRest", spec := "berthRest", unfollowed := true, recurses := true, plainKeys := false, apart := false }
def BerthRestSaid : Prop := berthRestRow.holds Try.pinned (OpenSpec.ofChange berthRestSpec)

/-- ITS FALSE NEIGHBOUR: 'it returns false'. Refute it at one input. -/
def berthRestWrong : ChangeSpec := { name := "berthRest", fn := fun _ => fun
  | [d] => { results := [.lit (.bool false)], args := [d] }
  | _ => none }
def BerthRestWrongFalsely : Prop := berthRestRow.holds Try.pinned (OpenSpec.ofChange berthRestWrong)

/-- 'couchettelaw05.BerthChange': WHATEVER THE INPUT: true; the input reads as it did. -/
def berthChangeSpec : ChangeSpec := { name := "berthChange", fn := fun _ => fun
  | [d] => { results := [.lit (.bool true)], args := [d] }
  | _ => none }
def berthChangeRow : OpenClaim := { program := "ytfljkbcphmnjkaa", sum := "c996e9b83fee74dd5ee57604b43e99ea72109e88ab7a37f4babff91b18d9337e", func := "couchette/couchettelaw05.BerthChange", spec := "berthChange", unfollowed := true, recurses := true, plainKeys := false, apart := false }
def BerthChangeSaid : Prop := berthChangeRow.holds Try.pinned (OpenSpec.ofChange berthChangeSpec)

/-- ITS FALSE NEIGHBOUR: 'it returns false'. Refute it at one input. -/
def berthChangeWrong : ChangeSpec := { name := "berthChange", fn := fun _ => fun
  | [d] => { results := [.lit (.bool false)], args := [d] }
  | _ => none }
def BerthChangeWrongFalsely : Prop := berthChangeRow.holds Try.pinned (OpenSpec.ofChange berthChangeWrong)

/-- 'couchettelaw05.BerthMoved': WHATEVER THE INPUT: true; the input reads as it did. -/
def berthMovedSpec : ChangeSpec := { name := "berthMoved", fn := fun _ => fun
  | [d] => { results := [.lit (.bool true)], args := [d] }
  | _ => none }
def berthMovedRow : OpenClaim := { program := "ytfljkbcphmnjkaa", sum := "c996e9b83fee74dd5ee57604b43e99ea72109e88ab7a37f4babff91b18d9337e", func := "couchette/couchettelaw05.BerthMoved", spec := "berthMoved", unfollowed := true, recurses := true, plainKeys := false, apart := false }
def BerthMovedSaid : Prop := berthMovedRow.holds Try.pinned (OpenSpec.ofChange berthMovedSpec)

/-- ITS FALSE NEIGHBOUR: 'it returns false'. Refute it at one input. -/
def berthMovedWrong : ChangeSpec := { name := "berthMoved", fn := fun _ => fun
  | [d] => { results := [.lit (.bool false)], args := [d] }
  | _ => none }
def BerthMovedWrongFalsely : Prop := berthMovedRow.holds Try.pinned (OpenSpec.ofChange berthMovedWrong)

/-- 'couchettelaw05.BerthShorter': WHATEVER THE INPUT: true; the input reads as it did. -/
def berthShorterSpec : ChangeSpec := { name := "berthShorter", fn := fun _ => fun
  | [d] => { results := [.lit (.bool true)], args := [d] }
  | _ => none }
def berthShorterRow : OpenClaim := { program := "ytfljkbcphmnjkaa", sum := "c996e9b83fee74dd5ee57604b43e99ea72109e88ab7a37f4babff91b18d9337e", func := "couchette/couchettelaw05.BerthShorter", spec := "berthShorter", unfollowed := true, recurses := true, plainKeys := false, apart := false }
def BerthShorterSaid : Prop := berthShorterRow.holds Try.pinned (OpenSpec.ofChange berthShorterSpec)

/-- ITS FALSE NEIGHBOUR: 'it returns false'. Refute it at one input. -/
def berthShorterWrong : ChangeSpec := { name := "berthShorter", fn := fun _ => fun
  | [d] => { results := [.lit (.bool false)], args := [d] }
  | _ => none }
def BerthShorterWrongFalsely : Prop := berthShorterRow.holds Try.pinned (OpenSpec.ofChange berthShorterWrong)

/-- 'couchettelaw05.BerthTurned': WHATEVER THE INPUT: true; the input reads as it did. -/
def berthTurnedSpec : ChangeSpec := { name := "berthTurned", fn := fun _ => fun
  | [d] => { results := [.lit (.bool true)], args := [d] }
  | _ => none }
def berthTurnedRow : OpenClaim := { program := "ytfljkbcphmnjkaa", sum := "c996e9b83fee74dd5ee57604b43e99ea72109e88ab7a37f4babff91b18d9337e", func := "couchette/couchettelaw05.BerthTurned", spec := "berthTurned", unfollowed := true, recurses := true, plainKeys := false, apart := false }
def BerthTurnedSaid : Prop := berthTurnedRow.holds Try.pinned (OpenSpec.ofChange berthTurnedSpec)

/-- ITS FALSE NEIGHBOUR: 'it returns false'. Refute it at one input. -/
def berthTurnedWrong : ChangeSpec := { name := "berthTurned", fn := fun _ => fun
  | [d] => { results := [.lit (.bool false)], args := [d] }
  | _ => none }
def BerthTurnedWrongFalsely : Prop := berthTurnedRow.holds Try.pinned (OpenSpec.ofChange berthTurnedWrong)

/-- 'couchettelaw05.BerthRoom': WHATEVER THE INPUT: true; the input reads as it did. -/
def berthRoomSpec : ChangeSpec := { name := "berthRoom", fn := fun _ => fun
  | [d] => { results := [.lit (.bool true)], args := [d] }
  | _ => none }
def berthRoomRow : OpenClaim := { program := "ytfljkbcphmnjkaa", sum := "c996e9b83fee74dd5ee57604b43e99ea72109e88ab7a37f4babff91b18d9337e", func := "couchette/couchettelaw05.BerthRoom", spec := "berthRoom", unfollowed := true, recurses := true, plainKeys := false, apart := false }
def BerthRoomSaid : Prop := berthRoomRow.holds Try.pinned (OpenSpec.ofChange berthRoomSpec)

/-- ITS FALSE NEIGHBOUR: 'it returns false'. Refute it at one input. -/
def berthRoomWrong : ChangeSpec := { name := "berthRoom", fn := fun _ => fun
  | [d] => { results := [.lit (.bool false)], args := [d] }
  | _ => none }
def BerthRoomWrongFalsely : Prop := berthRoomRow.holds Try.pinned (OpenSpec.ofChange berthRoomWrong)

/-- 'couchettelaw05.BerthTwice': WHATEVER THE INPUT: true; the input reads as it did. -/
def berthTwiceSpec : ChangeSpec := { name := "berthTwice", fn := fun _ => fun
  | [d] => { results := [.lit (.bool true)], args := [d] }
  | _ => none }
def berthTwiceRow : OpenClaim := { program := "ytfljkbcphmnjkaa", sum := "c996e9b83fee74dd5ee57604b43e99ea72109e88ab7a37f4babff91b18d9337e", func := "couchette/couchettelaw05.BerthTwice", spec := "berthTwice", unfollowed := true, recurses := true, plainKeys := false, apart := false }
def BerthTwiceSaid : Prop := berthTwiceRow.holds Try.pinned (OpenSpec.ofChange berthTwiceSpec)

/-- ITS FALSE NEIGHBOUR: 'it returns false'. Refute it at one input. -/
def berthTwiceWrong : ChangeSpec := { name := "berthTwice", fn := fun _ => fun
  | [d] => { results := [.lit (.bool false)], args := [d] }
  | _ => none }
def BerthTwiceWrongFalsely : Prop := berthTwiceRow.holds Try.pinned (OpenSpec.ofChange berthTwiceWrong)

/-- 'couchettelaw05.BerthCancelled': WHATEVER THE INPUT: true; the input reads as it did. -/
def berthCancelledSpec : ChangeSpec := { name := "berthCancelled", fn := fun _ => fun
  | [d] => { results := [.lit (.bool true)], args := [d] }
  | _ => none }
def berthCancelledRow : OpenClaim := { program := "ytfljkbcphmnjkaa", sum := "c996e9b83fee74dd5ee57604b43e99ea72109e88ab7a37f4babff91b18d9337e", func := "couchette/couchettelaw05.BerthCancelled", spec := "berthCancelled", unfollowed := true, recurses := true, plainKeys := false, apart := false }
def BerthCancelledSaid : Prop := berthCancelledRow.holds Try.pinned (OpenSpec.ofChange berthCancelledSpec)

/-- ITS FALSE NEIGHBOUR: 'it returns false'. Refute it at one input. -/
def berthCancelledWrong : ChangeSpec := { name := "berthCancelled", fn := fun _ => fun
  | [d] => { results := [.lit (.bool false)], args := [d] }
  | _ => none }
def BerthCancelledWrongFalsely : Prop := berthCancelledRow.holds Try.pinned (OpenSpec.ofChange berthCancelledWrong)

/-- 'couchettelaw05.BerthMost': WHATEVER THE INPUT: true; the input reads as it did. -/
def berthMostSpec : ChangeSpec := { name := "berthMost", fn := fun _ => fun
  | [d] => { results := [.lit (.bool true)], args := [d] }
  | _ => none }
def berthMostRow : OpenClaim := { program := "ytfljkbcphmnjkaa", sum := "c996e9b83fee74dd5ee57604b43e99ea72109e88ab7a37f4babff91b18d9337e", func := "couchette/couchettelaw05.BerthMost", spec := "berthMost", unfollowed := true, recurses := true, plainKeys := false, apart := false }
def BerthMostSaid : Prop := berthMostRow.holds Try.pinned (OpenSpec.ofChange berthMostSpec)

/-- ITS FALSE NEIGHBOUR: 'it returns false'. Refute it at one input. -/
def berthMostWrong : ChangeSpec := { name := "berthMost", fn := fun _ => fun
  | [d] => { results := [.lit (.bool false)], args := [d] }
  | _ => none }
def BerthMostWrongFalsely : Prop := berthMostRow.holds Try.pinned (OpenSpec.ofChange berthMostWrong)

/-- 'couchettelaw05.BerthLoads': WHATEVER THE INPUT: true; the input reads as it did. -/
def berthLoadsSpec : ChangeSpec := { name := "berthLoads", fn := fun _ => fun
  | [d1, d2, d3] => { results := [.lit (.bool true)], args := [d1, d2, d3] }
  | _ => none }
def berthLoadsRow : OpenClaim := { program := "ytfljkbcphmnjkaa", sum := "c996e9b83fee74dd5ee57604b43e99ea72109e88ab7a37f4babff91b18d9337e", func := "couchette/couchettelaw05.BerthLoads", spec := "berthLoads", unfollowed := true, recurses := true, plainKeys := false, apart := false }
def BerthLoadsSaid : Prop := berthLoadsRow.holds Try.pinned (OpenSpec.ofChange berthLoadsSpec)

/-- ITS FALSE NEIGHBOUR: 'it returns false'. Refute it at one input. -/
def berthLoadsWrong : ChangeSpec := { name := "berthLoads", fn := fun _ => fun
  | [d1, d2, d3] => { results := [.lit (.bool false)], args := [d1, d2, d3] }
  | _ => none }
def BerthLoadsWrongFalsely : Prop := berthLoadsRow.holds Try.pinned (OpenSpec.ofChange berthLoadsWrong)

/-- 'couchettelaw05.BerthGaps': WHATEVER THE INPUT: true; the input reads as it did. -/
def berthGapsSpec : ChangeSpec := { name := "berthGaps", fn := fun _ => fun
  | [d] => { results := [.lit (.bool true)], args := [d] }
  | _ => none }
def berthGapsRow : OpenClaim := { program := "ytfljkbcphmnjkaa", sum := "c996e9b83fee74dd5ee57604b43e99ea72109e88ab7a37f4babff91b18d9337e", func := "couchette/couchettelaw05.BerthGaps", spec := "berthGaps", unfollowed := true, recurses := true, plainKeys := false, apart := false }
def BerthGapsSaid : Prop := berthGapsRow.holds Try.pinned (OpenSpec.ofChange berthGapsSpec)

/-- ITS FALSE NEIGHBOUR: 'it returns false'. Refute it at one input. -/
def berthGapsWrong : ChangeSpec := { name := "berthGaps", fn := fun _ => fun
  | [d] => { results := [.lit (.bool false)], args := [d] }
  | _ => none }
def BerthGapsWrongFalsely : Prop := berthGapsRow.holds Try.pinned (OpenSpec.ofChange berthGapsWrong)

/- THE SECOND FORM. 'bulk': how many values and letters a reading holds, each counted each time it is reached (what is shared counts as often as it is met; a slice's spare places count too). A statement '..UptoSaid' is the law's where the arguments, and the package variables that the reading takes, are together of bulk at most 1048576: NARROWER than '..Said'. Prove '..Said' where nothing that the law and all that it calls make is longer than what came in: it says more and counts as full. Else prove '..UptoSaid'. A law counts once. -/
mutual
def uptoBulk {H : Type} : DataW H → Nat
  | .lit (.string bytes) => bytes.length + 1
  | .lit _ => 1
  | .nil => 1
  | .ptr d => uptoBulk d + 1
  | .slice elems spare => uptoBulkAll elems + uptoBulkAll spare + 1
  | .agg parts => uptoBulkAll parts + 1
  | .iface _ d => uptoBulk d + 1
  | .map entries => uptoBulkEntries entries + 1
  | .held _ => 1
def uptoBulkAll {H : Type} : List (DataW H) → Nat
  | [] => 0
  | d :: r => uptoBulk d + uptoBulkAll r
def uptoBulkEntries {H : Type} : List (Lit × DataW H) → Nat
  | [] => 0
  | x :: r => uptoBulkEntry x + uptoBulkEntries r
def uptoBulkEntry {H : Type} : Lit × DataW H → Nat
  | (.string bytes, d) => bytes.length + uptoBulk d + 1
  | (_, d) => uptoBulk d + 1
 end
def uptoSmall : (H : Type) → List (DataW H) → Bool := fun _ ds => decide (uptoBulkAll ds ≤ 1048576)
def OpenSpec.upto (s : _root_.Go.ChangeSpec) : _root_.Go.OpenSpec := { _root_.Go.OpenSpec.ofChange s with cond := some uptoSmall }

/-- 'couchettelaw05.BerthNobody', WHERE WHAT IT READS IS OF BULK AT MOST 1048576: true; the input reads as it did. -/
def berthNobodyUptoRow : OpenClaim := { program := "ytfljkbcphmnjkaa", sum := "c996e9b83fee74dd5ee57604b43e99ea72109e88ab7a37f4babff91b18d9337e", func := "couchette/couchettelaw05.BerthNobody", spec := "berthNobody", unfollowed := true, recurses := true, plainKeys := false, apart := false, narrowed := true }
def BerthNobodyUptoSaid : Prop := berthNobodyUptoRow.holds Try.pinned (OpenSpec.upto berthNobodySpec)

/-- 'couchettelaw05.BerthRest', WHERE WHAT IT READS IS OF BULK AT MOST 1048576: true; the input reads as it did. -/
def berthRestUptoRow : OpenClaim := { program := "ytfljkbcphmnjkaa", sum := "c996e9b83fee74dd5ee57604b43e99ea72109e88ab7a37f4babff91b18d9337e", func := "couchette/couchettelaw05.BerthRest", spec := "berthRest", unfollowed := true, recurses := true, plainKeys := false, apart := false, narrowed := true }
def BerthRestUptoSaid : Prop := berthRestUptoRow.holds Try.pinned (OpenSpec.upto berthRestSpec)

/-- 'couchettelaw05.BerthChange', WHERE WHAT IT READS IS OF BULK AT MOST 1048576: true; the input reads as it did. -/
def berthChangeUptoRow : OpenClaim := { program := "ytfljkbcphmnjkaa", sum := "c996e9b83fee74dd5ee57604b43e99ea72109e88ab7a37f4babff91b18d9337e", func := "couchette/couchettelaw05.BerthChange", spec := "berthChange", unfollowed := true, recurses := true, plainKeys := false, apart := false, narrowed := true }
def BerthChangeUptoSaid : Prop := berthChangeUptoRow.holds Try.pinned (OpenSpec.upto berthChangeSpec)

/-- 'couchettelaw05.BerthMoved', WHERE WHAT IT READS IS OF BULK AT MOST 1048576: true; the input reads as it did. -/
def berthMovedUptoRow : OpenClaim := { program := "ytfljkbcphmnjkaa", sum := "c996e9b83fee74dd5ee57604b43e99ea72109e88ab7a37f4babff91b18d9337e", func := "couchette/couchettelaw05.BerthMoved", spec := "berthMoved", unfollowed := true, recurses := true, plainKeys := false, apart := false, narrowed := true }
def BerthMovedUptoSaid : Prop := berthMovedUptoRow.holds Try.pinned (OpenSpec.upto berthMovedSpec)

/-- 'couchettelaw05.BerthShorter', WHERE WHAT IT READS IS OF BULK AT MOST 1048576: true; the input reads as it did. -/
def berthShorterUptoRow : OpenClaim := { program := "ytfljkbcphmnjkaa", sum := "c996e9b83fee74dd5ee57604b43e99ea72109e88ab7a37f4babff91b18d9337e", func := "couchette/couchettelaw05.BerthShorter", spec := "berthShorter", unfollowed := true, recurses := true, plainKeys := false, apart := false, narrowed := true }
def BerthShorterUptoSaid : Prop := berthShorterUptoRow.holds Try.pinned (OpenSpec.upto berthShorterSpec)

/-- 'couchettelaw05.BerthTurned', WHERE WHAT IT READS IS OF BULK AT MOST 1048576: true; the input reads as it did. -/
def berthTurnedUptoRow : OpenClaim := { program := "ytfljkbcphmnjkaa", sum := "c996e9b83fee74dd5ee57604b43e99ea72109e88ab7a37f4babff91b18d9337e", func := "couchette/couchettelaw05.BerthTurned", spec := "berthTurned", unfollowed := true, recurses := true, plainKeys := false, apart := false, narrowed := true }
def BerthTurnedUptoSaid : Prop := berthTurnedUptoRow.holds Try.pinned (OpenSpec.upto berthTurnedSpec)

/-- 'couchettelaw05.BerthRoom', WHERE WHAT IT READS IS OF BULK AT MOST 1048576: true; the input reads as it did. -/
def berthRoomUptoRow : OpenClaim := { program := "ytfljkbcphmnjkaa", sum := "c996e9b83fee74dd5ee57604b43e99ea72109e88ab7a37f4babff91b18d9337e", func := "couchette/couchettelaw05.BerthRoom", spec := "berthRoom", unfollowed := true, recurses := true, plainKeys := false, apart := false, narrowed := true }
def BerthRoomUptoSaid : Prop := berthRoomUptoRow.holds Try.pinned (OpenSpec.upto berthRoomSpec)

/-- 'couchettelaw05.BerthTwice', WHERE WHAT IT READS IS OF BULK AT MOST 1048576: true; the input reads as it did. -/
def berthTwiceUptoRow : OpenClaim := { program := "ytfljkbcphmnjkaa", sum := "c996e9b83fee74dd5ee57604b43e99ea72109e88ab7a37f4babff91b18d9337e", func := "couchette/couchettelaw05.BerthTwice", spec := "berthTwice", unfollowed := true, recurses := true, plainKeys := false, apart := false, narrowed := true }
def BerthTwiceUptoSaid : Prop := berthTwiceUptoRow.holds Try.pinned (OpenSpec.upto berthTwiceSpec)

/-- 'couchettelaw05.BerthCancelled', WHERE WHAT IT READS IS OF BULK AT MOST 1048576: true; the input reads as it did. -/
def berthCancelledUptoRow : OpenClaim := { program := "ytfljkbcphmnjkaa", sum := "c996e9b83fee74dd5ee57604b43e99ea72109e88ab7a37f4babff91b18d9337e", func := "couchette/couchettelaw05.BerthCancelled", spec := "berthCancelled", unfollowed := true, recurses := true, plainKeys := false, apart := false, narrowed := true }
def BerthCancelledUptoSaid : Prop := berthCancelledUptoRow.holds Try.pinned (OpenSpec.upto berthCancelledSpec)

/-- 'couchettelaw05.BerthMost', WHERE WHAT IT READS IS OF BULK AT MOST 1048576: true; the input reads as it did. -/
def berthMostUptoRow : OpenClaim := { program := "ytfljkbcphmnjkaa", sum := "c996e9b83fee74dd5ee57604b43e99ea72109e88ab7a37f4babff91b18d9337e", func := "couchette/couchettelaw05.BerthMost", spec := "berthMost", unfollowed := true, recurses := true, plainKeys := false, apart := false, narrowed := true }
def BerthMostUptoSaid : Prop := berthMostUptoRow.holds Try.pinned (OpenSpec.upto berthMostSpec)

/-- 'couchettelaw05.BerthLoads', WHERE WHAT IT READS IS OF BULK AT MOST 1048576: true; the input reads as it did. -/
def berthLoadsUptoRow : OpenClaim := { program := "ytfljkbcphmnjkaa", sum := "c996e9b83fee74dd5ee57604b43e99ea72109e88ab7a37f4babff91b18d9337e", func := "couchette/couchettelaw05.BerthLoads", spec := "berthLoads", unfollowed := true, recurses := true, plainKeys := false, apart := false, narrowed := true }
def BerthLoadsUptoSaid : Prop := berthLoadsUptoRow.holds Try.pinned (OpenSpec.upto berthLoadsSpec)

/-- 'couchettelaw05.BerthGaps', WHERE WHAT IT READS IS OF BULK AT MOST 1048576: true; the input reads as it did. -/
def berthGapsUptoRow : OpenClaim := { program := "ytfljkbcphmnjkaa", sum := "c996e9b83fee74dd5ee57604b43e99ea72109e88ab7a37f4babff91b18d9337e", func := "couchette/couchettelaw05.BerthGaps", spec := "berthGaps", unfollowed := true, recurses := true, plainKeys := false, apart := false, narrowed := true }
def BerthGapsUptoSaid : Prop := berthGapsUptoRow.holds Try.pinned (OpenSpec.upto berthGapsSpec)

end Rows
end Go.Proofs.Ytfljkbcphmnjkaa
