/-
  No cell of these rows narrows 'for every input' (looked for: loops, veiled, ifaces, maps, wideKeys, modest, calm, conditions, laid).
  DERIVED. THE GIVEN ROWS OF THIS SEAT. 11 by the template 'for every input the law returns true; each argument reads behind the call as it read before'; 0 by the template 'total and deterministic' (their statements: YtolfgnbldofcjaaTotals.lean).
  GIVEN WITH THE SEED: the statements are not yours to turn. If you find one false, say at which input.
  Laid BY PROGRAM, IN A SANDBOX (cutbox-rows.mjs): the forced cells as the released guide's own fill.sh prints them over the translation 7d4b193b6f49c4a9… (all of the seat's roots in one cut). By AI agents, Wed Nov 11 2026. No macro, syntax, notation, axiom, sorry.
-/
import Derived.Test.YtolfgnbldofcjaaChecked
import GoSem.Claim
import GoSem.ClaimJoined
import GoSem.ClaimMapViews
import Derived.JoinedTies
import Derived.KernelRfl
namespace Go.Proofs.Ytolfgnbldofcjaa
/- THE CELL 'sum', in the pinned program and in every row, IS THE sha256 OF THE DUMP (.gsa) THAT YtolfgnbldofcjaaProg.lean LOADS. Nothing in Lean hashes anything: it is a label: what it is worth is what the hold of that sum in a sandbox is worth. -/
noncomputable def Try.pinned : Pinned := { name := "ytolfgnbldofcjaa", sum := "7d4b193b6f49c4a94a5abc9e43695f7e500b2116ce1caa4b17d61942f6b0a5ff", checked := Try.checked }
namespace Rows
def none {H : Type} : Left H := { results := [], args := [] }

/-- 'lampblacklaw06.SignalAreas': WHATEVER THE INPUT: true; the input reads as it did. -/
def signalAreasSpec : ChangeSpec := { name := "signalAreas", fn := fun _ => fun
  | [d] => { results := [.lit (.bool true)], args := [d] }
  | _ => none }
def signalAreasRow : OpenClaim := { program := "ytolfgnbldofcjaa", sum := "7d4b193b6f49c4a94a5abc9e43695f7e500b2116ce1caa4b17d61942f6b0a5ff", func := "lampblack/lampblacklaw06.SignalAreas", spec := "signalAreas", unfollowed := true, recurses := true, plainKeys := false, apart := false }
def SignalAreasSaid : Prop := signalAreasRow.holds Try.pinned (OpenSpec.ofChange signalAreasSpec)

/-- ITS FALSE NEIGHBOUR: 'it returns false'. Refute it at one input. -/
def signalAreasWrong : ChangeSpec := { name := "signalAreas", fn := fun _ => fun
  | [d] => { results := [.lit (.bool false)], args := [d] }
  | _ => none }
def SignalAreasWrongFalsely : Prop := signalAreasRow.holds Try.pinned (OpenSpec.ofChange signalAreasWrong)

/-- 'lampblacklaw06.SignalHolds': WHATEVER THE INPUT: true; the input reads as it did. -/
def signalHoldsSpec : ChangeSpec := { name := "signalHolds", fn := fun _ => fun
  | [d1, d2, d3] => { results := [.lit (.bool true)], args := [d1, d2, d3] }
  | _ => none }
def signalHoldsRow : OpenClaim := { program := "ytolfgnbldofcjaa", sum := "7d4b193b6f49c4a94a5abc9e43695f7e500b2116ce1caa4b17d61942f6b0a5ff", func := "lampblack/lampblacklaw06.SignalHolds", spec := "signalHolds", unfollowed := true, recurses := true, plainKeys := false, apart := false }
def SignalHoldsSaid : Prop := signalHoldsRow.holds Try.pinned (OpenSpec.ofChange signalHoldsSpec)

/-- ITS FALSE NEIGHBOUR: 'it returns false'. Refute it at one input. -/
def signalHoldsWrong : ChangeSpec := { name := "signalHolds", fn := fun _ => fun
  | [d1, d2, d3] => { results := [.lit (.bool false)], args := [d1, d2, d3] }
  | _ => none }
def SignalHoldsWrongFalsely : Prop := signalHoldsRow.holds Try.pinned (OpenSpec.ofChange signalHoldsWrong)

/-- 'lampblacklaw06.SignalGaps': WHATEVER THE INPUT: true; the input reads as it did. -/
def signalGapsSpec : ChangeSpec := { name := "signalGaps", fn := fun _ => fun
  | [d1, d2, d3] => { results := [.lit (.bool true)], args := [d1, d2, d3] }
  | _ => none }
def signalGapsRow : OpenClaim := { program := "ytolfgnbldofcjaa", sum := "7d4b193b6f49c4a94a5abc9e43695f7e500b2116ce1caa4b17d61942f6b0a5ff", func := "lampblack/lampblacklaw06.SignalGaps", spec := "signalGaps", unfollowed := true, recurses := true, plainKeys := false, apart := false }
def SignalGapsSaid : Prop := signalGapsRow.holds Try.pinned (OpenSpec.ofChange signalGapsSpec)

/-- ITS FALSE NEIGHBOUR: 'it returns false'. Refute it at one input. -/
def signalGapsWrong : ChangeSpec := { name := "signalGaps", fn := fun _ => fun
  | [d1, d2, d3] => { results := [.lit (.bool false)], args := [d1, d2, d3] }
  | _ => none }
def SignalGapsWrongFalsely : Prop := signalGapsRow.holds Try.pinned (OpenSpec.ofChange signalGapsWrong)

/-- 'lampblacklaw06.SignalMoved': WHATEVER THE INPUT: true; the input reads as it did. -/
def signalMovedSpec : ChangeSpec := { name := "signalMoved", fn := fun _ => fun
  | [d1, d2, d3, d4] => { results := [.lit (.bool true)], args := [d1, d2, d3, d4] }
  | _ => none }
def signalMovedRow : OpenClaim := { program := "ytolfgnbldofcjaa", sum := "7d4b193b6f49c4a94a5abc9e43695f7e500b2116ce1caa4b17d61942f6b0a5ff", func := "lampblack/lampblacklaw06.SignalMoved", spec := "signalMoved", unfollowed := true, recurses := true, plainKeys := false, apart := false }
def SignalMovedSaid : Prop := signalMovedRow.holds Try.pinned (OpenSpec.ofChange signalMovedSpec)

/-- ITS FALSE NEIGHBOUR: 'it returns false'. Refute it at one input. -/
def signalMovedWrong : ChangeSpec := { name := "signalMoved", fn := fun _ => fun
  | [d1, d2, d3, d4] => { results := [.lit (.bool false)], args := [d1, d2, d3, d4] }
  | _ => none }
def SignalMovedWrongFalsely : Prop := signalMovedRow.holds Try.pinned (OpenSpec.ofChange signalMovedWrong)

/-- 'lampblacklaw06.SignalFar': WHATEVER THE INPUT: true; the input reads as it did. -/
def signalFarSpec : ChangeSpec := { name := "signalFar", fn := fun _ => fun
  | [d1, d2, d3, d4, d5, d6, d7] => { results := [.lit (.bool true)], args := [d1, d2, d3, d4, d5, d6, d7] }
  | _ => none }
def signalFarRow : OpenClaim := { program := "ytolfgnbldofcjaa", sum := "7d4b193b6f49c4a94a5abc9e43695f7e500b2116ce1caa4b17d61942f6b0a5ff", func := "lampblack/lampblacklaw06.SignalFar", spec := "signalFar", unfollowed := true, recurses := true, plainKeys := false, apart := false }
def SignalFarSaid : Prop := signalFarRow.holds Try.pinned (OpenSpec.ofChange signalFarSpec)

/-- ITS FALSE NEIGHBOUR: 'it returns false'. Refute it at one input. -/
def signalFarWrong : ChangeSpec := { name := "signalFar", fn := fun _ => fun
  | [d1, d2, d3, d4, d5, d6, d7] => { results := [.lit (.bool false)], args := [d1, d2, d3, d4, d5, d6, d7] }
  | _ => none }
def SignalFarWrongFalsely : Prop := signalFarRow.holds Try.pinned (OpenSpec.ofChange signalFarWrong)

/-- 'lampblacklaw06.SignalCoded': WHATEVER THE INPUT: true; the input reads as it did. -/
def signalCodedSpec : ChangeSpec := { name := "signalCoded", fn := fun _ => fun
  | [d1, d2] => { results := [.lit (.bool true)], args := [d1, d2] }
  | _ => none }
def signalCodedRow : OpenClaim := { program := "ytolfgnbldofcjaa", sum := "7d4b193b6f49c4a94a5abc9e43695f7e500b2116ce1caa4b17d61942f6b0a5ff", func := "lampblack/lampblacklaw06.SignalCoded", spec := "signalCoded", unfollowed := true, recurses := true, plainKeys := false, apart := false }
def SignalCodedSaid : Prop := signalCodedRow.holds Try.pinned (OpenSpec.ofChange signalCodedSpec)

/-- ITS FALSE NEIGHBOUR: 'it returns false'. Refute it at one input. -/
def signalCodedWrong : ChangeSpec := { name := "signalCoded", fn := fun _ => fun
  | [d1, d2] => { results := [.lit (.bool false)], args := [d1, d2] }
  | _ => none }
def SignalCodedWrongFalsely : Prop := signalCodedRow.holds Try.pinned (OpenSpec.ofChange signalCodedWrong)

/-- 'lampblacklaw06.SignalProofs': WHATEVER THE INPUT: true; the input reads as it did. -/
def signalProofsSpec : ChangeSpec := { name := "signalProofs", fn := fun _ => fun
  | [d1, d2, d3, d4] => { results := [.lit (.bool true)], args := [d1, d2, d3, d4] }
  | _ => none }
def signalProofsRow : OpenClaim := { program := "ytolfgnbldofcjaa", sum := "7d4b193b6f49c4a94a5abc9e43695f7e500b2116ce1caa4b17d61942f6b0a5ff", func := "lampblack/lampblacklaw06.SignalProofs", spec := "signalProofs", unfollowed := true, recurses := true, plainKeys := false, apart := false }
def SignalProofsSaid : Prop := signalProofsRow.holds Try.pinned (OpenSpec.ofChange signalProofsSpec)

/-- ITS FALSE NEIGHBOUR: 'it returns false'. Refute it at one input. -/
def signalProofsWrong : ChangeSpec := { name := "signalProofs", fn := fun _ => fun
  | [d1, d2, d3, d4] => { results := [.lit (.bool false)], args := [d1, d2, d3, d4] }
  | _ => none }
def SignalProofsWrongFalsely : Prop := signalProofsRow.holds Try.pinned (OpenSpec.ofChange signalProofsWrong)

/-- 'lampblacklaw06.SignalEither': WHATEVER THE INPUT: true; the input reads as it did. -/
def signalEitherSpec : ChangeSpec := { name := "signalEither", fn := fun _ => fun
  | [d1, d2, d3, d4, d5, d6, d7] => { results := [.lit (.bool true)], args := [d1, d2, d3, d4, d5, d6, d7] }
  | _ => none }
def signalEitherRow : OpenClaim := { program := "ytolfgnbldofcjaa", sum := "7d4b193b6f49c4a94a5abc9e43695f7e500b2116ce1caa4b17d61942f6b0a5ff", func := "lampblack/lampblacklaw06.SignalEither", spec := "signalEither", unfollowed := true, recurses := true, plainKeys := false, apart := false }
def SignalEitherSaid : Prop := signalEitherRow.holds Try.pinned (OpenSpec.ofChange signalEitherSpec)

/-- ITS FALSE NEIGHBOUR: 'it returns false'. Refute it at one input. -/
def signalEitherWrong : ChangeSpec := { name := "signalEither", fn := fun _ => fun
  | [d1, d2, d3, d4, d5, d6, d7] => { results := [.lit (.bool false)], args := [d1, d2, d3, d4, d5, d6, d7] }
  | _ => none }
def SignalEitherWrongFalsely : Prop := signalEitherRow.holds Try.pinned (OpenSpec.ofChange signalEitherWrong)

/-- 'lampblacklaw06.SignalSummed': WHATEVER THE INPUT: true; the input reads as it did. -/
def signalSummedSpec : ChangeSpec := { name := "signalSummed", fn := fun _ => fun
  | [d1, d2, d3, d4] => { results := [.lit (.bool true)], args := [d1, d2, d3, d4] }
  | _ => none }
def signalSummedRow : OpenClaim := { program := "ytolfgnbldofcjaa", sum := "7d4b193b6f49c4a94a5abc9e43695f7e500b2116ce1caa4b17d61942f6b0a5ff", func := "lampblack/lampblacklaw06.SignalSummed", spec := "signalSummed", unfollowed := true, recurses := true, plainKeys := false, apart := false }
def SignalSummedSaid : Prop := signalSummedRow.holds Try.pinned (OpenSpec.ofChange signalSummedSpec)

/-- ITS FALSE NEIGHBOUR: 'it returns false'. Refute it at one input. -/
def signalSummedWrong : ChangeSpec := { name := "signalSummed", fn := fun _ => fun
  | [d1, d2, d3, d4] => { results := [.lit (.bool false)], args := [d1, d2, d3, d4] }
  | _ => none }
def SignalSummedWrongFalsely : Prop := signalSummedRow.holds Try.pinned (OpenSpec.ofChange signalSummedWrong)

/-- 'lampblacklaw06.SignalAllowed': WHATEVER THE INPUT: true; the input reads as it did. -/
def signalAllowedSpec : ChangeSpec := { name := "signalAllowed", fn := fun _ => fun
  | [d1, d2, d3, d4] => { results := [.lit (.bool true)], args := [d1, d2, d3, d4] }
  | _ => none }
def signalAllowedRow : OpenClaim := { program := "ytolfgnbldofcjaa", sum := "7d4b193b6f49c4a94a5abc9e43695f7e500b2116ce1caa4b17d61942f6b0a5ff", func := "lampblack/lampblacklaw06.SignalAllowed", spec := "signalAllowed", unfollowed := true, recurses := true, plainKeys := false, apart := false }
def SignalAllowedSaid : Prop := signalAllowedRow.holds Try.pinned (OpenSpec.ofChange signalAllowedSpec)

/-- ITS FALSE NEIGHBOUR: 'it returns false'. Refute it at one input. -/
def signalAllowedWrong : ChangeSpec := { name := "signalAllowed", fn := fun _ => fun
  | [d1, d2, d3, d4] => { results := [.lit (.bool false)], args := [d1, d2, d3, d4] }
  | _ => none }
def SignalAllowedWrongFalsely : Prop := signalAllowedRow.holds Try.pinned (OpenSpec.ofChange signalAllowedWrong)

/-- 'lampblacklaw06.SignalKnown': WHATEVER THE INPUT: true; the input reads as it did. -/
def signalKnownSpec : ChangeSpec := { name := "signalKnown", fn := fun _ => fun
  | [] => { results := [.lit (.bool true)], args := [] }
  | _ => none }
def signalKnownRow : OpenClaim := { program := "ytolfgnbldofcjaa", sum := "7d4b193b6f49c4a94a5abc9e43695f7e500b2116ce1caa4b17d61942f6b0a5ff", func := "lampblack/lampblacklaw06.SignalKnown", spec := "signalKnown", unfollowed := true, recurses := true, plainKeys := false, apart := false }
def SignalKnownSaid : Prop := signalKnownRow.holds Try.pinned (OpenSpec.ofChange signalKnownSpec)

/-- ITS FALSE NEIGHBOUR: 'it returns false'. Refute it at one input. -/
def signalKnownWrong : ChangeSpec := { name := "signalKnown", fn := fun _ => fun
  | [] => { results := [.lit (.bool false)], args := [] }
  | _ => none }
def SignalKnownWrongFalsely : Prop := signalKnownRow.holds Try.pinned (OpenSpec.ofChange signalKnownWrong)

/- THE SECOND FORM. 'bulk': how many values and letters a reading holds, each counted each time it is reached (what is shared counts as often as it is met; a slice's spare places count too). A statement '..UptoSaid' is the law's where the arguments, and the package variables that the reading takes, are together of bulk at most 1048576: NARROWER than '..Said'. Prove '..Said' where nothing that the law and all that it calls make is longer than what came in: it says more and counts as full. Else prove '..UptoSaid'. A law counts once. -/
mutual
def uptoBulk {H : Type} : DataW H → Nat
  | .lit (.string bytes) => bytes.length + 1
  | .lit _ => 1
  | .nil => 1
  | .ptr d => uptoBulk d + 1
  | .slice elems spare => uptoBulkAll elems + uptoBulkAll spare + 1
  | .agg parts => uptoBulkAll parts + 1
  | .iface _ d => uptoBulk d + 1
  | .map entries => uptoBulkEntries entries + 1
  | .held _ => 1
def uptoBulkAll {H : Type} : List (DataW H) → Nat
  | [] => 0
  | d :: r => uptoBulk d + uptoBulkAll r
def uptoBulkEntries {H : Type} : List (Lit × DataW H) → Nat
  | [] => 0
  | x :: r => uptoBulkEntry x + uptoBulkEntries r
def uptoBulkEntry {H : Type} : Lit × DataW H → Nat
  | (.string bytes, d) => bytes.length + uptoBulk d + 1
  | (_, d) => uptoBulk d + 1
 end
def uptoSmall : (H : Type) → List (DataW H) → Bool := fun _ ds => decide (uptoBulkAll ds ≤ 1048576)
def OpenSpec.upto (s : _root_.Go.ChangeSpec) : _root_.Go.OpenSpec := { _root_.Go.OpenSpec.ofChange s with cond := some uptoSmall }

/-- 'lampblacklaw06.SignalAreas', WHERE WHAT IT READS IS OF BULK AT MOST 1048576: true; the input reads as it did. -/
def signalAreasUptoRow : OpenClaim := { program := "ytolfgnbldofcjaa", sum := "7d4b193b6f49c4a94a5abc9e43695f7e500b2116ce1caa4b17d61942f6b0a5ff", func := "lampblack/lampblacklaw06.SignalAreas", spec := "signalAreas", unfollowed := true, recurses := true, plainKeys := false, apart := false, narrowed := true }
def SignalAreasUptoSaid : Prop := signalAreasUptoRow.holds Try.pinned (OpenSpec.upto signalAreasSpec)

/-- 'lampblacklaw06.SignalHolds', WHERE WHAT IT READS IS OF BULK AT MOST 1048576: true; the input reads as it did. -/
def signalHoldsUptoRow : OpenClaim := { program := "ytolfgnbldofcjaa", sum := "7d4b193b6f49c4a94a5abc9e43695f7e500b2116ce1caa4b17d61942f6b0a5ff", func := "lampblack/lampblacklaw06.SignalHolds", spec := "signalHolds", unfollowed := true, recurses := true, plainKeys := false, apart := false, narrowed := true }
def SignalHoldsUptoSaid : Prop := signalHoldsUptoRow.holds Try.pinned (OpenSpec.upto signalHoldsSpec)

/-- 'lampblacklaw06.SignalGaps', WHERE WHAT IT READS IS OF BULK AT MOST 1048576: true; the input reads as it did. -/
def signalGapsUptoRow : OpenClaim := { program := "ytolfgnbldofcjaa", sum := "7d4b193b6f49c4a94a5abc9e43695f7e500b2116ce1caa4b17d61942f6b0a5ff", func := "lampblack/lampblacklaw06.SignalGaps", spec := "signalGaps", unfollowed := true, recurses := true, plainKeys := false, apart := false, narrowed := true }
def SignalGapsUptoSaid : Prop := signalGapsUptoRow.holds Try.pinned (OpenSpec.upto signalGapsSpec)

/-- 'lampblacklaw06.SignalMoved', WHERE WHAT IT READS IS OF BULK AT MOST 1048576: true; the input reads as it did. -/
def signalMovedUptoRow : OpenClaim := { program := "ytolfgnbldofcjaa", sum := "7d4b193b6f49c4a94a5abc9e43695f7e500b2116ce1caa4b17d61942f6b0a5ff", func := "lampblack/lampblacklaw06.SignalMoved", spec := "signalMoved", unfollowed := true, recurses := true, plainKeys := false, apart := false, narrowed := true }
def SignalMovedUptoSaid : Prop := signalMovedUptoRow.holds Try.pinned (OpenSpec.upto signalMovedSpec)

/-- 'lampblacklaw06.SignalFar', WHERE WHAT IT READS IS OF BULK AT MOST 1048576: true; the input reads as it did. -/
def signalFarUptoRow : OpenClaim := { program := "ytolfgnbldofcjaa", sum := "7d4b193b6f49c4a94a5abc9e43695f7e500b2116ce1caa4b17d61942f6b0a5ff", func := "lampblack/lampblacklaw06.SignalFar", spec := "signalFar", unfollowed := true, recurses := true, plainKeys := false, apart := false, narrowed := true }
def SignalFarUptoSaid : Prop := signalFarUptoRow.holds Try.pinned (OpenSpec.upto signalFarSpec)

/-- 'lampblacklaw06.SignalCoded', WHERE WHAT IT READS IS OF BULK AT MOST 1048576: true; the input reads as it did. -/
def signalCodedUptoRow : OpenClaim := { program := "ytolfgnbldofcjaa", sum := "7d4b193b6f49c4a94a5abc9e43695f7e500b2116ce1caa4b17d61942f6b0a5ff", func := "lampblack/lampblacklaw06.SignalCoded", spec := "signalCoded", unfollowed := true, recurses := true, plainKeys := false, apart := false, narrowed := true }
def SignalCodedUptoSaid : Prop := signalCodedUptoRow.holds Try.pinned (OpenSpec.upto signalCodedSpec)

/-- 'lampblacklaw06.SignalProofs', WHERE WHAT IT READS IS OF BULK AT MOST 1048576: true; the input reads as it did. -/
def signalProofsUptoRow : OpenClaim := { program := "ytolfgnbldofcjaa", sum := "7d4b193b6f49c4a94a5abc9e43695f7e500b2116ce1caa4b17d61942f6b0a5ff", func := "lampblack/lampblacklaw06.SignalProofs", spec := "signalProofs", unfollowed := true, recurses := true, plainKeys := false, apart := false, narrowed := true }
def SignalProofsUptoSaid : Prop := signalProofsUptoRow.holds Try.pinned (OpenSpec.upto signalProofsSpec)

/-- 'lampblacklaw06.SignalEither', WHERE WHAT IT READS IS OF BULK AT MOST 1048576: true; the input reads as it did. -/
def signalEitherUptoRow : OpenClaim := { program := "ytolfgnbldofcjaa", sum := "7d4b193b6f49c4a94a5abc9e43695f7e500b2116ce1caa4b17d61942f6b0a5ff", func := "lampblack/lampblacklaw06.SignalEither", spec := "signalEither", unfollowed := true, recurses := true, plainKeys := false, apart := false, narrowed := true }
def SignalEitherUptoSaid : Prop := signalEitherUptoRow.holds Try.pinned (OpenSpec.upto signalEitherSpec)

/-- 'lampblacklaw06.SignalSummed', WHERE WHAT IT READS IS OF BULK AT MOST 1048576: true; the input reads as it did. -/
def signalSummedUptoRow : OpenClaim := { program := "ytolfgnbldofcjaa", sum := "7d4b193b6f49c4a94a5abc9e43695f7e500b2116ce1caa4b17d61942f6b0a5ff", func := "lampblack/lampblacklaw06.SignalSummed", spec := "signalSummed", unfollowed := true, recurses := true, plainKeys := false, apart := false, narrowed := true }
def SignalSummedUptoSaid : Prop := signalSummedUptoRow.holds Try.pinned (OpenSpec.upto signalSummedSpec)

/-- 'lampblacklaw06.SignalAllowed', WHERE WHAT IT READS IS OF BULK AT MOST 1048576: true; the input reads as it did. -/
def signalAllowedUptoRow : OpenClaim := { program := "ytolfgnbldofcjaa", sum := "7d4b193b6f49c4a94a5abc9e43695f7e500b2116ce1caa4b17d61942f6b0a5ff", func := "lampblack/lampblacklaw06.SignalAllowed", spec := "signalAllowed", unfollowed := true, recurses := true, plainKeys := false, apart := false, narrowed := true }
def SignalAllowedUptoSaid : Prop := signalAllowedUptoRow.holds Try.pinned (OpenSpec.upto signalAllowedSpec)

/-- 'lampblacklaw06.SignalKnown', WHERE WHAT IT READS IS OF BULK AT MOST 1048576: true; the input reads as it did. -/
def signalKnownUptoRow : OpenClaim := { program := "ytolfgnbldofcjaa", sum := "7d4b193b6f49c4a94a5abc9e43695f7e500b2116ce1caa4b17d61942f6b0a5ff", func := "lampblack/lampblacklaw06.SignalKnown", spec := "signalKnown", unfollowed := true, recurses := true, plainKeys := false, apart := false, narrowed := true }
def SignalKnownUptoSaid : Prop := signalKnownUptoRow.holds Try.pinned (OpenSpec.upto signalKnownSpec)

end Rows
end Go.Proofs.Ytolfgnbldofcjaa
