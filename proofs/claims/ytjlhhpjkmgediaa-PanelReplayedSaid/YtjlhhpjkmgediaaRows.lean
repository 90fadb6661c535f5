/-
  No cell of these rows narrows 'for every input' (looked for: loops, veiled, ifaces, maps, wideKeys, modest, calm, conditions, laid).
  DERIVED. THE GIVEN ROWS OF THIS SEAT. 11 by the template 'for every input the law returns true; each argument reads behind the call as it read before'; 0 by the template 'total and deterministic' (their statements: YtjlhhpjkmgediaaTotals.lean).
  GIVEN WITH THE SEED: the statements are not yours to turn. If you find one false, say at which input.
  Laid BY PROGRAM, IN A SANDBOX (cutbox-rows.mjs): the forced cells as the released guide's own fill.sh prints them over the translation 76c2a2aa47f77da4… (all of the seat's roots in one cut). By AI agents, Wed Nov 11 2026. No macro, syntax, notation, axiom, sorry.
-/
import Derived.Test.YtjlhhpjkmgediaaChecked
import GoSem.Claim
import GoSem.ClaimJoined
import GoSem.ClaimMapViews
import Derived.JoinedTies
import Derived.KernelRfl
namespace Go.Proofs.Ytjlhhpjkmgediaa
/- THE CELL 'sum', in the pinned program and in every row, IS THE sha256 OF THE DUMP (.gsa) THAT YtjlhhpjkmgediaaProg.lean LOADS. Nothing in Lean hashes anything: it is a label: what it is worth is what the hold of that sum in a sandbox is worth. -/
noncomputable def Try.pinned : Pinned := { name := "ytjlhhpjkmgediaa", sum := "76c2a2aa47f77da4023bec2a3a325c2a2f7e1803fd65400c80b1234f30bfd6f3", checked := Try.checked }
namespace Rows
def none {H : Type} : Left H := { results := [], args := [] }

/-- 'lampblacklaw11.PanelBooks': WHATEVER THE INPUT: true; the input reads as it did. -/
def panelBooksSpec : ChangeSpec := { name := "panelBooks", fn := fun _ => fun
  | [d] => { results := [.lit (.bool true)], args := [d] }
  | _ => none }
def panelBooksRow : OpenClaim := { program := "ytjlhhpjkmgediaa", sum := "76c2a2aa47f77da4023bec2a3a325c2a2f7e1803fd65400c80b1234f30bfd6f3", func := "lampblack/lampblacklaw11.PanelBooks", spec := "panelBooks", inPlace := ["slices.overlaps[int]"], unfollowed := true, recurses := true, plainKeys := false, apart := false }
def PanelBooksSaid : Prop := panelBooksRow.holds Try.pinned (OpenSpec.ofChange panelBooksSpec)

/-- ITS FALSE NEIGHBOUR: 'it returns false'. Refute it at one input. -/
def panelBooksWrong : ChangeSpec := { name := "panelBooks", fn := fun _ => fun
  | [d] => { results := [.lit (.bool false)], args := [d] }
  | _ => none }
def PanelBooksWrongFalsely : Prop := panelBooksRow.holds Try.pinned (OpenSpec.ofChange panelBooksWrong)

/-- 'lampblacklaw11.PanelOrders': WHATEVER THE INPUT: true; the input reads as it did. -/
def panelOrdersSpec : ChangeSpec := { name := "panelOrders", fn := fun _ => fun
  | [d1, d2] => { results := [.lit (.bool true)], args := [d1, d2] }
  | _ => none }
def panelOrdersRow : OpenClaim := { program := "ytjlhhpjkmgediaa", sum := "76c2a2aa47f77da4023bec2a3a325c2a2f7e1803fd65400c80b1234f30bfd6f3", func := "lampblack/lampblacklaw11.PanelOrders", spec := "panelOrders", inPlace := ["slices.overlaps[int]"], unfollowed := true, recurses := true, plainKeys := false, apart := false }
def PanelOrdersSaid : Prop := panelOrdersRow.holds Try.pinned (OpenSpec.ofChange panelOrdersSpec)

/-- ITS FALSE NEIGHBOUR: 'it returns false'. Refute it at one input. -/
def panelOrdersWrong : ChangeSpec := { name := "panelOrders", fn := fun _ => fun
  | [d1, d2] => { results := [.lit (.bool false)], args := [d1, d2] }
  | _ => none }
def PanelOrdersWrongFalsely : Prop := panelOrdersRow.holds Try.pinned (OpenSpec.ofChange panelOrdersWrong)

/-- 'lampblacklaw11.PanelLists': WHATEVER THE INPUT: true; the input reads as it did. -/
def panelListsSpec : ChangeSpec := { name := "panelLists", fn := fun _ => fun
  | [d1, d2] => { results := [.lit (.bool true)], args := [d1, d2] }
  | _ => none }
def panelListsRow : OpenClaim := { program := "ytjlhhpjkmgediaa", sum := "76c2a2aa47f77da4023bec2a3a325c2a2f7e1803fd65400c80b1234f30bfd6f3", func := "lampblack/lampblacklaw11.PanelLists", spec := "panelLists", inPlace := ["slices.overlaps[int]"], unfollowed := true, recurses := true, plainKeys := false, apart := false }
def PanelListsSaid : Prop := panelListsRow.holds Try.pinned (OpenSpec.ofChange panelListsSpec)

/-- ITS FALSE NEIGHBOUR: 'it returns false'. Refute it at one input. -/
def panelListsWrong : ChangeSpec := { name := "panelLists", fn := fun _ => fun
  | [d1, d2] => { results := [.lit (.bool false)], args := [d1, d2] }
  | _ => none }
def PanelListsWrongFalsely : Prop := panelListsRow.holds Try.pinned (OpenSpec.ofChange panelListsWrong)

/-- 'lampblacklaw11.PanelPossible': WHATEVER THE INPUT: true; the input reads as it did. -/
def panelPossibleSpec : ChangeSpec := { name := "panelPossible", fn := fun _ => fun
  | [d1, d2, d3, d4] => { results := [.lit (.bool true)], args := [d1, d2, d3, d4] }
  | _ => none }
def panelPossibleRow : OpenClaim := { program := "ytjlhhpjkmgediaa", sum := "76c2a2aa47f77da4023bec2a3a325c2a2f7e1803fd65400c80b1234f30bfd6f3", func := "lampblack/lampblacklaw11.PanelPossible", spec := "panelPossible", inPlace := ["slices.overlaps[int]"], unfollowed := true, recurses := true, plainKeys := false, apart := false }
def PanelPossibleSaid : Prop := panelPossibleRow.holds Try.pinned (OpenSpec.ofChange panelPossibleSpec)

/-- ITS FALSE NEIGHBOUR: 'it returns false'. Refute it at one input. -/
def panelPossibleWrong : ChangeSpec := { name := "panelPossible", fn := fun _ => fun
  | [d1, d2, d3, d4] => { results := [.lit (.bool false)], args := [d1, d2, d3, d4] }
  | _ => none }
def PanelPossibleWrongFalsely : Prop := panelPossibleRow.holds Try.pinned (OpenSpec.ofChange panelPossibleWrong)

/-- 'lampblacklaw11.PanelCounted': WHATEVER THE INPUT: true; the input reads as it did. -/
def panelCountedSpec : ChangeSpec := { name := "panelCounted", fn := fun _ => fun
  | [d1, d2] => { results := [.lit (.bool true)], args := [d1, d2] }
  | _ => none }
def panelCountedRow : OpenClaim := { program := "ytjlhhpjkmgediaa", sum := "76c2a2aa47f77da4023bec2a3a325c2a2f7e1803fd65400c80b1234f30bfd6f3", func := "lampblack/lampblacklaw11.PanelCounted", spec := "panelCounted", inPlace := ["slices.overlaps[int]"], unfollowed := true, recurses := true, plainKeys := false, apart := false }
def PanelCountedSaid : Prop := panelCountedRow.holds Try.pinned (OpenSpec.ofChange panelCountedSpec)

/-- ITS FALSE NEIGHBOUR: 'it returns false'. Refute it at one input. -/
def panelCountedWrong : ChangeSpec := { name := "panelCounted", fn := fun _ => fun
  | [d1, d2] => { results := [.lit (.bool false)], args := [d1, d2] }
  | _ => none }
def PanelCountedWrongFalsely : Prop := panelCountedRow.holds Try.pinned (OpenSpec.ofChange panelCountedWrong)

/-- 'lampblacklaw11.PanelRanked': WHATEVER THE INPUT: true; the input reads as it did. -/
def panelRankedSpec : ChangeSpec := { name := "panelRanked", fn := fun _ => fun
  | [d1, d2] => { results := [.lit (.bool true)], args := [d1, d2] }
  | _ => none }
def panelRankedRow : OpenClaim := { program := "ytjlhhpjkmgediaa", sum := "76c2a2aa47f77da4023bec2a3a325c2a2f7e1803fd65400c80b1234f30bfd6f3", func := "lampblack/lampblacklaw11.PanelRanked", spec := "panelRanked", inPlace := ["slices.overlaps[int]"], unfollowed := true, recurses := true, plainKeys := false, apart := false }
def PanelRankedSaid : Prop := panelRankedRow.holds Try.pinned (OpenSpec.ofChange panelRankedSpec)

/-- ITS FALSE NEIGHBOUR: 'it returns false'. Refute it at one input. -/
def panelRankedWrong : ChangeSpec := { name := "panelRanked", fn := fun _ => fun
  | [d1, d2] => { results := [.lit (.bool false)], args := [d1, d2] }
  | _ => none }
def PanelRankedWrongFalsely : Prop := panelRankedRow.holds Try.pinned (OpenSpec.ofChange panelRankedWrong)

/-- 'lampblacklaw11.PanelReplayed': WHATEVER THE INPUT: true; the input reads as it did. -/
def panelReplayedSpec : ChangeSpec := { name := "panelReplayed", fn := fun _ => fun
  | [d1, d2, d3, d4] => { results := [.lit (.bool true)], args := [d1, d2, d3, d4] }
  | _ => none }
def panelReplayedRow : OpenClaim := { program := "ytjlhhpjkmgediaa", sum := "76c2a2aa47f77da4023bec2a3a325c2a2f7e1803fd65400c80b1234f30bfd6f3", func := "lampblack/lampblacklaw11.PanelReplayed", spec := "panelReplayed", inPlace := ["slices.overlaps[int]"], unfollowed := true, recurses := true, plainKeys := false, apart := false }
def PanelReplayedSaid : Prop := panelReplayedRow.holds Try.pinned (OpenSpec.ofChange panelReplayedSpec)

/-- ITS FALSE NEIGHBOUR: 'it returns false'. Refute it at one input. -/
def panelReplayedWrong : ChangeSpec := { name := "panelReplayed", fn := fun _ => fun
  | [d1, d2, d3, d4] => { results := [.lit (.bool false)], args := [d1, d2, d3, d4] }
  | _ => none }
def PanelReplayedWrongFalsely : Prop := panelReplayedRow.holds Try.pinned (OpenSpec.ofChange panelReplayedWrong)

/-- 'lampblacklaw11.PanelKing': WHATEVER THE INPUT: true; the input reads as it did. -/
def panelKingSpec : ChangeSpec := { name := "panelKing", fn := fun _ => fun
  | [d1, d2] => { results := [.lit (.bool true)], args := [d1, d2] }
  | _ => none }
def panelKingRow : OpenClaim := { program := "ytjlhhpjkmgediaa", sum := "76c2a2aa47f77da4023bec2a3a325c2a2f7e1803fd65400c80b1234f30bfd6f3", func := "lampblack/lampblacklaw11.PanelKing", spec := "panelKing", inPlace := ["slices.overlaps[int]"], unfollowed := true, recurses := true, plainKeys := false, apart := false }
def PanelKingSaid : Prop := panelKingRow.holds Try.pinned (OpenSpec.ofChange panelKingSpec)

/-- ITS FALSE NEIGHBOUR: 'it returns false'. Refute it at one input. -/
def panelKingWrong : ChangeSpec := { name := "panelKing", fn := fun _ => fun
  | [d1, d2] => { results := [.lit (.bool false)], args := [d1, d2] }
  | _ => none }
def PanelKingWrongFalsely : Prop := panelKingRow.holds Try.pinned (OpenSpec.ofChange panelKingWrong)

/-- 'lampblacklaw11.PanelTurned': WHATEVER THE INPUT: true; the input reads as it did. -/
def panelTurnedSpec : ChangeSpec := { name := "panelTurned", fn := fun _ => fun
  | [d1, d2] => { results := [.lit (.bool true)], args := [d1, d2] }
  | _ => none }
def panelTurnedRow : OpenClaim := { program := "ytjlhhpjkmgediaa", sum := "76c2a2aa47f77da4023bec2a3a325c2a2f7e1803fd65400c80b1234f30bfd6f3", func := "lampblack/lampblacklaw11.PanelTurned", spec := "panelTurned", inPlace := ["slices.overlaps[int]"], unfollowed := true, recurses := true, plainKeys := false, apart := false }
def PanelTurnedSaid : Prop := panelTurnedRow.holds Try.pinned (OpenSpec.ofChange panelTurnedSpec)

/-- ITS FALSE NEIGHBOUR: 'it returns false'. Refute it at one input. -/
def panelTurnedWrong : ChangeSpec := { name := "panelTurned", fn := fun _ => fun
  | [d1, d2] => { results := [.lit (.bool false)], args := [d1, d2] }
  | _ => none }
def PanelTurnedWrongFalsely : Prop := panelTurnedRow.holds Try.pinned (OpenSpec.ofChange panelTurnedWrong)

/-- 'lampblacklaw11.PanelKnown': WHATEVER THE INPUT: true; the input reads as it did. -/
def panelKnownSpec : ChangeSpec := { name := "panelKnown", fn := fun _ => fun
  | [] => { results := [.lit (.bool true)], args := [] }
  | _ => none }
def panelKnownRow : OpenClaim := { program := "ytjlhhpjkmgediaa", sum := "76c2a2aa47f77da4023bec2a3a325c2a2f7e1803fd65400c80b1234f30bfd6f3", func := "lampblack/lampblacklaw11.PanelKnown", spec := "panelKnown", inPlace := ["slices.overlaps[int]"], unfollowed := true, recurses := true, plainKeys := false, apart := false }
def PanelKnownSaid : Prop := panelKnownRow.holds Try.pinned (OpenSpec.ofChange panelKnownSpec)

/-- ITS FALSE NEIGHBOUR: 'it returns false'. Refute it at one input. -/
def panelKnownWrong : ChangeSpec := { name := "panelKnown", fn := fun _ => fun
  | [] => { results := [.lit (.bool false)], args := [] }
  | _ => none }
def PanelKnownWrongFalsely : Prop := panelKnownRow.holds Try.pinned (OpenSpec.ofChange panelKnownWrong)

/-- 'lampblacklaw11.PanelDuels': WHATEVER THE INPUT: true; the input reads as it did. -/
def panelDuelsSpec : ChangeSpec := { name := "panelDuels", fn := fun _ => fun
  | [d] => { results := [.lit (.bool true)], args := [d] }
  | _ => none }
def panelDuelsRow : OpenClaim := { program := "ytjlhhpjkmgediaa", sum := "76c2a2aa47f77da4023bec2a3a325c2a2f7e1803fd65400c80b1234f30bfd6f3", func := "lampblack/lampblacklaw11.PanelDuels", spec := "panelDuels", inPlace := ["slices.overlaps[int]"], unfollowed := true, recurses := true, plainKeys := false, apart := false }
def PanelDuelsSaid : Prop := panelDuelsRow.holds Try.pinned (OpenSpec.ofChange panelDuelsSpec)

/-- ITS FALSE NEIGHBOUR: 'it returns false'. Refute it at one input. -/
def panelDuelsWrong : ChangeSpec := { name := "panelDuels", fn := fun _ => fun
  | [d] => { results := [.lit (.bool false)], args := [d] }
  | _ => none }
def PanelDuelsWrongFalsely : Prop := panelDuelsRow.holds Try.pinned (OpenSpec.ofChange panelDuelsWrong)

/- THE SECOND FORM. 'bulk': how many values and letters a reading holds, each counted each time it is reached (what is shared counts as often as it is met; a slice's spare places count too). A statement '..UptoSaid' is the law's where the arguments, and the package variables that the reading takes, are together of bulk at most 1048576: NARROWER than '..Said'. Prove '..Said' where nothing that the law and all that it calls make is longer than what came in: it says more and counts as full. Else prove '..UptoSaid'. A law counts once. -/
mutual
def uptoBulk {H : Type} : DataW H → Nat
  | .lit (.string bytes) => bytes.length + 1
  | .lit _ => 1
  | .nil => 1
  | .ptr d => uptoBulk d + 1
  | .slice elems spare => uptoBulkAll elems + uptoBulkAll spare + 1
  | .agg parts => uptoBulkAll parts + 1
  | .iface _ d => uptoBulk d + 1
  | .map entries => uptoBulkEntries entries + 1
  | .held _ => 1
def uptoBulkAll {H : Type} : List (DataW H) → Nat
  | [] => 0
  | d :: r => uptoBulk d + uptoBulkAll r
def uptoBulkEntries {H : Type} : List (Lit × DataW H) → Nat
  | [] => 0
  | x :: r => uptoBulkEntry x + uptoBulkEntries r
def uptoBulkEntry {H : Type} : Lit × DataW H → Nat
  | (.string bytes, d) => bytes.length + uptoBulk d + 1
  | (_, d) => uptoBulk d + 1
 end
def uptoSmall : (H : Type) → List (DataW H) → Bool := fun _ ds => decide (uptoBulkAll ds ≤ 1048576)
def OpenSpec.upto (s : _root_.Go.ChangeSpec) : _root_.Go.OpenSpec := { _root_.Go.OpenSpec.ofChange s with cond := some uptoSmall }

/-- 'lampblacklaw11.PanelBooks', WHERE WHAT IT READS IS OF BULK AT MOST 1048576: true; the input reads as it did. -/
def panelBooksUptoRow : OpenClaim := { program := "ytjlhhpjkmgediaa", sum := "76c2a2aa47f77da4023bec2a3a325c2a2f7e1803fd65400c80b1234f30bfd6f3", func := "lampblack/lampblacklaw11.PanelBooks", spec := "panelBooks", inPlace := ["slices.overlaps[int]"], unfollowed := true, recurses := true, plainKeys := false, apart := false, narrowed := true }
def PanelBooksUptoSaid : Prop := panelBooksUptoRow.holds Try.pinned (OpenSpec.upto panelBooksSpec)

/-- 'lampblacklaw11.PanelOrders', WHERE WHAT IT READS IS OF BULK AT MOST 1048576: true; the input reads as it did. -/
def panelOrdersUptoRow : OpenClaim := { program := "ytjlhhpjkmgediaa", sum := "76c2a2aa47f77da4023bec2a3a325c2a2f7e1803fd65400c80b1234f30bfd6f3", func := "lampblack/lampblacklaw11.PanelOrders", spec := "panelOrders", inPlace := ["slices.overlaps[int]"], unfollowed := true, recurses := true, plainKeys := false, apart := false, narrowed := true }
def PanelOrdersUptoSaid : Prop := panelOrdersUptoRow.holds Try.pinned (OpenSpec.upto panelOrdersSpec)

/-- 'lampblacklaw11.PanelLists', WHERE WHAT IT READS IS OF BULK AT MOST 1048576: true; the input reads as it did. -/
def panelListsUptoRow : OpenClaim := { program := "ytjlhhpjkmgediaa", sum := "76c2a2aa47f77da4023bec2a3a325c2a2f7e1803fd65400c80b1234f30bfd6f3", func := "lampblack/lampblacklaw11.PanelLists", spec := "panelLists", inPlace := ["slices.overlaps[int]"], unfollowed := true, recurses := true, plainKeys := false, apart := false, narrowed := true }
def PanelListsUptoSaid : Prop := panelListsUptoRow.holds Try.pinned (OpenSpec.upto panelListsSpec)

/-- 'lampblacklaw11.PanelPossible', WHERE WHAT IT READS IS OF BULK AT MOST 1048576: true; the input reads as it did. -/
def panelPossibleUptoRow : OpenClaim := { program := "ytjlhhpjkmgediaa", sum := "76c2a2aa47f77da4023bec2a3a325c2a2f7e1803fd65400c80b1234f30bfd6f3", func := "lampblack/lampblacklaw11.PanelPossible", spec := "panelPossible", inPlace := ["slices.overlaps[int]"], unfollowed := true, recurses := true, plainKeys := false, apart := false, narrowed := true }
def PanelPossibleUptoSaid : Prop := panelPossibleUptoRow.holds Try.pinned (OpenSpec.upto panelPossibleSpec)

/-- 'lampblacklaw11.PanelCounted', WHERE WHAT IT READS IS OF BULK AT MOST 1048576: true; the input reads as it did. -/
def panelCountedUptoRow : OpenClaim := { program := "ytjlhhpjkmgediaa", sum := "76c2a2aa47f77da4023bec2a3a325c2a2f7e1803fd65400c80b1234f30bfd6f3", func := "lampblack/lampblacklaw11.PanelCounted", spec := "panelCounted", inPlace := ["slices.overlaps[int]"], unfollowed := true, recurses := true, plainKeys := false, apart := false, narrowed := true }
def PanelCountedUptoSaid : Prop := panelCountedUptoRow.holds Try.pinned (OpenSpec.upto panelCountedSpec)

/-- 'lampblacklaw11.PanelRanked', WHERE WHAT IT READS IS OF BULK AT MOST 1048576: true; the input reads as it did. -/
def panelRankedUptoRow : OpenClaim := { program := "ytjlhhpjkmgediaa", sum := "76c2a2aa47f77da4023bec2a3a325c2a2f7e1803fd65400c80b1234f30bfd6f3", func := "lampblack/lampblacklaw11.PanelRanked", spec := "panelRanked", inPlace := ["slices.overlaps[int]"], unfollowed := true, recurses := true, plainKeys := false, apart := false, narrowed := true }
def PanelRankedUptoSaid : Prop := panelRankedUptoRow.holds Try.pinned (OpenSpec.upto panelRankedSpec)

/-- 'lampblacklaw11.PanelReplayed', WHERE WHAT IT READS IS OF BULK AT MOST 1048576: true; the input reads as it did. -/
def panelReplayedUptoRow : OpenClaim := { program := "ytjlhhpjkmgediaa", sum := "76c2a2aa47f77da4023bec2a3a325c2a2f7e1803fd65400c80b1234f30bfd6f3", func := "lampblack/lampblacklaw11.PanelReplayed", spec := "panelReplayed", inPlace := ["slices.overlaps[int]"], unfollowed := true, recurses := true, plainKeys := false, apart := false, narrowed := true }
def PanelReplayedUptoSaid : Prop := panelReplayedUptoRow.holds Try.pinned (OpenSpec.upto panelReplayedSpec)

/-- 'lampblacklaw11.PanelKing', WHERE WHAT IT READS IS OF BULK AT MOST 1048576: true; the input reads as it did. -/
def panelKingUptoRow : OpenClaim := { program := "ytjlhhpjkmgediaa", sum := "76c2a2aa47f77da4023bec2a3a325c2a2f7e1803fd65400c80b1234f30bfd6f3", func := "lampblack/lampblacklaw11.PanelKing", spec := "panelKing", inPlace := ["slices.overlaps[int]"], unfollowed := true, recurses := true, plainKeys := false, apart := false, narrowed := true }
def PanelKingUptoSaid : Prop := panelKingUptoRow.holds Try.pinned (OpenSpec.upto panelKingSpec)

/-- 'lampblacklaw11.PanelTurned', WHERE WHAT IT READS IS OF BULK AT MOST 1048576: true; the input reads as it did. -/
def panelTurnedUptoRow : OpenClaim := { program := "ytjlhhpjkmgediaa", sum := "76c2a2aa47f77da4023bec2a3a325c2a2f7e1803fd65400c80b1234f30bfd6f3", func := "lampblack/lampblacklaw11.PanelTurned", spec := "panelTurned", inPlace := ["slices.overlaps[int]"], unfollowed := true, recurses := true, plainKeys := false, apart := false, narrowed := true }
def PanelTurnedUptoSaid : Prop := panelTurnedUptoRow.holds Try.pinned (OpenSpec.upto panelTurnedSpec)

/-- 'lampblacklaw11.PanelKnown', WHERE WHAT IT READS IS OF BULK AT MOST 1048576: true; the input reads as it did. -/
def panelKnownUptoRow : OpenClaim := { program := "ytjlhhpjkmgediaa", sum := "76c2a2aa47f77da4023bec2a3a325c2a2f7e1803fd65400c80b1234f30bfd6f3", func := "lampblack/lampblacklaw11.PanelKnown", spec := "panelKnown", inPlace := ["slices.overlaps[int]"], unfollowed := true, recurses := true, plainKeys := false, apart := false, narrowed := true }
def PanelKnownUptoSaid : Prop := panelKnownUptoRow.holds Try.pinned (OpenSpec.upto panelKnownSpec)

/-- 'lampblacklaw11.PanelDuels', WHERE WHAT IT READS IS OF BULK AT MOST 1048576: true; the input reads as it did. -/
def panelDuelsUptoRow : OpenClaim := { program := "ytjlhhpjkmgediaa", sum := "76c2a2aa47f77da4023bec2a3a325c2a2f7e1803fd65400c80b1234f30bfd6f3", func := "lampblack/lampblacklaw11.PanelDuels", spec := "panelDuels", inPlace := ["slices.overlaps[int]"], unfollowed := true, recurses := true, plainKeys := false, apart := false, narrowed := true }
def PanelDuelsUptoSaid : Prop := panelDuelsUptoRow.holds Try.pinned (OpenSpec.upto panelDuelsSpec)

end Rows
end Go.Proofs.Ytjlhhpjkmgediaa
