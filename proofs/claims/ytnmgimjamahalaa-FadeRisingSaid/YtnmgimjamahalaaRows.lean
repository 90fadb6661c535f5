/-
  No cell of these rows narrows 'for every input' (looked for: loops, veiled, ifaces, maps, wideKeys, modest, calm, conditions, laid).
  DERIVED. THE GIVEN ROWS OF THIS SEAT. 10 by the template 'for every input the law returns true; each argument reads behind the call as it read before'; 0 by the template 'total and deterministic' (their statements: YtnmgimjamahalaaTotals.lean).
  GIVEN WITH THE SEED: the statements are not yours to turn. If you find one false, say at which input.
  Laid BY PROGRAM, IN A SANDBOX (cutbox-rows.mjs): the forced cells as the released guide's own fill.sh prints them over the translation b2610cf4d5317fd5… (all of the seat's roots in one cut). By AI agents, Wed Nov 11 2026. No macro, syntax, notation, axiom, sorry.
-/
import Derived.Test.YtnmgimjamahalaaChecked
import GoSem.Claim
import GoSem.ClaimJoined
import GoSem.ClaimMapViews
import Derived.JoinedTies
import Derived.KernelRfl
namespace Go.Proofs.Ytnmgimjamahalaa
/- THE CELL 'sum', in the pinned program and in every row, IS THE sha256 OF THE DUMP (.gsa) THAT YtnmgimjamahalaaProg.lean LOADS. Nothing in Lean hashes anything: it is a label: what it is worth is what the hold of that sum in a sandbox is worth. -/
noncomputable def Try.pinned : Pinned := { name := "ytnmgimjamahalaa", sum := "b2610cf4d5317fd5294a9ebbdaf85ef1d1d1143fd70e6ee53aab013f504d5a7c", checked := Try.checked }
namespace Rows
def none {H : Type} : Left H := { results := [], args := [] }

/-- 'lampblacklaw08.FadePools': WHATEVER THE INPUT: true; the input reads as it did. -/
def fadePoolsSpec : ChangeSpec := { name := "fadePools", fn := fun _ => fun
  | [d] => { results := [.lit (.bool true)], args := [d] }
  | _ => none }
def fadePoolsRow : OpenClaim := { program := "ytnmgimjamahalaa", sum := "b2610cf4d5317fd5294a9ebbdaf85ef1d1d1143fd70e6ee53aab013f504d5a7c", func := "lampblack/lampblacklaw08.FadePools", spec := "fadePools", unfollowed := true, recurses := true, apart := false }
def FadePoolsSaid : Prop := fadePoolsRow.holds Try.pinned (OpenSpec.ofChange fadePoolsSpec)

/-- ITS FALSE NEIGHBOUR: 'it returns false'. Refute it at one input. -/
def fadePoolsWrong : ChangeSpec := { name := "fadePools", fn := fun _ => fun
  | [d] => { results := [.lit (.bool false)], args := [d] }
  | _ => none }
def FadePoolsWrongFalsely : Prop := fadePoolsRow.holds Try.pinned (OpenSpec.ofChange fadePoolsWrong)

/-- 'lampblacklaw08.FadeProofs': WHATEVER THE INPUT: true; the input reads as it did. -/
def fadeProofsSpec : ChangeSpec := { name := "fadeProofs", fn := fun _ => fun
  | [d1, d2] => { results := [.lit (.bool true)], args := [d1, d2] }
  | _ => none }
def fadeProofsRow : OpenClaim := { program := "ytnmgimjamahalaa", sum := "b2610cf4d5317fd5294a9ebbdaf85ef1d1d1143fd70e6ee53aab013f504d5a7c", func := "lampblack/lampblacklaw08.FadeProofs", spec := "fadeProofs", unfollowed := true, recurses := true, apart := false }
def FadeProofsSaid : Prop := fadeProofsRow.holds Try.pinned (OpenSpec.ofChange fadeProofsSpec)

/-- ITS FALSE NEIGHBOUR: 'it returns false'. Refute it at one input. -/
def fadeProofsWrong : ChangeSpec := { name := "fadeProofs", fn := fun _ => fun
  | [d1, d2] => { results := [.lit (.bool false)], args := [d1, d2] }
  | _ => none }
def FadeProofsWrongFalsely : Prop := fadeProofsRow.holds Try.pinned (OpenSpec.ofChange fadeProofsWrong)

/-- 'lampblacklaw08.FadeValues': WHATEVER THE INPUT: true; the input reads as it did. -/
def fadeValuesSpec : ChangeSpec := { name := "fadeValues", fn := fun _ => fun
  | [d1, d2, d3] => { results := [.lit (.bool true)], args := [d1, d2, d3] }
  | _ => none }
def fadeValuesRow : OpenClaim := { program := "ytnmgimjamahalaa", sum := "b2610cf4d5317fd5294a9ebbdaf85ef1d1d1143fd70e6ee53aab013f504d5a7c", func := "lampblack/lampblacklaw08.FadeValues", spec := "fadeValues", unfollowed := true, recurses := true, apart := false }
def FadeValuesSaid : Prop := fadeValuesRow.holds Try.pinned (OpenSpec.ofChange fadeValuesSpec)

/-- ITS FALSE NEIGHBOUR: 'it returns false'. Refute it at one input. -/
def fadeValuesWrong : ChangeSpec := { name := "fadeValues", fn := fun _ => fun
  | [d1, d2, d3] => { results := [.lit (.bool false)], args := [d1, d2, d3] }
  | _ => none }
def FadeValuesWrongFalsely : Prop := fadeValuesRow.holds Try.pinned (OpenSpec.ofChange fadeValuesWrong)

/-- 'lampblacklaw08.FadeLabels': WHATEVER THE INPUT: true; the input reads as it did. -/
def fadeLabelsSpec : ChangeSpec := { name := "fadeLabels", fn := fun _ => fun
  | [d1, d2, d3] => { results := [.lit (.bool true)], args := [d1, d2, d3] }
  | _ => none }
def fadeLabelsRow : OpenClaim := { program := "ytnmgimjamahalaa", sum := "b2610cf4d5317fd5294a9ebbdaf85ef1d1d1143fd70e6ee53aab013f504d5a7c", func := "lampblack/lampblacklaw08.FadeLabels", spec := "fadeLabels", unfollowed := true, recurses := true, apart := false }
def FadeLabelsSaid : Prop := fadeLabelsRow.holds Try.pinned (OpenSpec.ofChange fadeLabelsSpec)

/-- ITS FALSE NEIGHBOUR: 'it returns false'. Refute it at one input. -/
def fadeLabelsWrong : ChangeSpec := { name := "fadeLabels", fn := fun _ => fun
  | [d1, d2, d3] => { results := [.lit (.bool false)], args := [d1, d2, d3] }
  | _ => none }
def FadeLabelsWrongFalsely : Prop := fadeLabelsRow.holds Try.pinned (OpenSpec.ofChange fadeLabelsWrong)

/-- 'lampblacklaw08.FadeNearest': WHATEVER THE INPUT: true; the input reads as it did. -/
def fadeNearestSpec : ChangeSpec := { name := "fadeNearest", fn := fun _ => fun
  | [d1, d2, d3] => { results := [.lit (.bool true)], args := [d1, d2, d3] }
  | _ => none }
def fadeNearestRow : OpenClaim := { program := "ytnmgimjamahalaa", sum := "b2610cf4d5317fd5294a9ebbdaf85ef1d1d1143fd70e6ee53aab013f504d5a7c", func := "lampblack/lampblacklaw08.FadeNearest", spec := "fadeNearest", unfollowed := true, recurses := true, apart := false }
def FadeNearestSaid : Prop := fadeNearestRow.holds Try.pinned (OpenSpec.ofChange fadeNearestSpec)

/-- ITS FALSE NEIGHBOUR: 'it returns false'. Refute it at one input. -/
def fadeNearestWrong : ChangeSpec := { name := "fadeNearest", fn := fun _ => fun
  | [d1, d2, d3] => { results := [.lit (.bool false)], args := [d1, d2, d3] }
  | _ => none }
def FadeNearestWrongFalsely : Prop := fadeNearestRow.holds Try.pinned (OpenSpec.ofChange fadeNearestWrong)

/-- 'lampblacklaw08.FadeLeast': WHATEVER THE INPUT: true; the input reads as it did. -/
def fadeLeastSpec : ChangeSpec := { name := "fadeLeast", fn := fun _ => fun
  | [d1, d2] => { results := [.lit (.bool true)], args := [d1, d2] }
  | _ => none }
def fadeLeastRow : OpenClaim := { program := "ytnmgimjamahalaa", sum := "b2610cf4d5317fd5294a9ebbdaf85ef1d1d1143fd70e6ee53aab013f504d5a7c", func := "lampblack/lampblacklaw08.FadeLeast", spec := "fadeLeast", unfollowed := true, recurses := true, apart := false }
def FadeLeastSaid : Prop := fadeLeastRow.holds Try.pinned (OpenSpec.ofChange fadeLeastSpec)

/-- ITS FALSE NEIGHBOUR: 'it returns false'. Refute it at one input. -/
def fadeLeastWrong : ChangeSpec := { name := "fadeLeast", fn := fun _ => fun
  | [d1, d2] => { results := [.lit (.bool false)], args := [d1, d2] }
  | _ => none }
def FadeLeastWrongFalsely : Prop := fadeLeastRow.holds Try.pinned (OpenSpec.ofChange fadeLeastWrong)

/-- 'lampblacklaw08.FadePooled': WHATEVER THE INPUT: true; the input reads as it did. -/
def fadePooledSpec : ChangeSpec := { name := "fadePooled", fn := fun _ => fun
  | [d1, d2, d3, d4, d5] => { results := [.lit (.bool true)], args := [d1, d2, d3, d4, d5] }
  | _ => none }
def fadePooledRow : OpenClaim := { program := "ytnmgimjamahalaa", sum := "b2610cf4d5317fd5294a9ebbdaf85ef1d1d1143fd70e6ee53aab013f504d5a7c", func := "lampblack/lampblacklaw08.FadePooled", spec := "fadePooled", unfollowed := true, recurses := true, apart := false }
def FadePooledSaid : Prop := fadePooledRow.holds Try.pinned (OpenSpec.ofChange fadePooledSpec)

/-- ITS FALSE NEIGHBOUR: 'it returns false'. Refute it at one input. -/
def fadePooledWrong : ChangeSpec := { name := "fadePooled", fn := fun _ => fun
  | [d1, d2, d3, d4, d5] => { results := [.lit (.bool false)], args := [d1, d2, d3, d4, d5] }
  | _ => none }
def FadePooledWrongFalsely : Prop := fadePooledRow.holds Try.pinned (OpenSpec.ofChange fadePooledWrong)

/-- 'lampblacklaw08.FadeRising': WHATEVER THE INPUT: true; the input reads as it did. -/
def fadeRisingSpec : ChangeSpec := { name := "fadeRising", fn := fun _ => fun
  | [d1, d2, d3, d4, d5, d6] => { results := [.lit (.bool true)], args := [d1, d2, d3, d4, d5, d6] }
  | _ => none }
def fadeRisingRow : OpenClaim := { program := "ytnmgimjamahalaa", sum := "b2610cf4d5317fd5294a9ebbdaf85ef1d1d1143fd70e6ee53aab013f504d5a7c", func := "lampblack/lampblacklaw08.FadeRising", spec := "fadeRising", unfollowed := true, recurses := true, apart := false }
def FadeRisingSaid : Prop := fadeRisingRow.holds Try.pinned (OpenSpec.ofChange fadeRisingSpec)

/-- ITS FALSE NEIGHBOUR: 'it returns false'. Refute it at one input. -/
def fadeRisingWrong : ChangeSpec := { name := "fadeRising", fn := fun _ => fun
  | [d1, d2, d3, d4, d5, d6] => { results := [.lit (.bool false)], args := [d1, d2, d3, d4, d5, d6] }
  | _ => none }
def FadeRisingWrongFalsely : Prop := fadeRisingRow.holds Try.pinned (OpenSpec.ofChange fadeRisingWrong)

/-- 'lampblacklaw08.FadeLabelled': WHATEVER THE INPUT: true; the input reads as it did. -/
def fadeLabelledSpec : ChangeSpec := { name := "fadeLabelled", fn := fun _ => fun
  | [d1, d2, d3, d4] => { results := [.lit (.bool true)], args := [d1, d2, d3, d4] }
  | _ => none }
def fadeLabelledRow : OpenClaim := { program := "ytnmgimjamahalaa", sum := "b2610cf4d5317fd5294a9ebbdaf85ef1d1d1143fd70e6ee53aab013f504d5a7c", func := "lampblack/lampblacklaw08.FadeLabelled", spec := "fadeLabelled", unfollowed := true, recurses := true, apart := false }
def FadeLabelledSaid : Prop := fadeLabelledRow.holds Try.pinned (OpenSpec.ofChange fadeLabelledSpec)

/-- ITS FALSE NEIGHBOUR: 'it returns false'. Refute it at one input. -/
def fadeLabelledWrong : ChangeSpec := { name := "fadeLabelled", fn := fun _ => fun
  | [d1, d2, d3, d4] => { results := [.lit (.bool false)], args := [d1, d2, d3, d4] }
  | _ => none }
def FadeLabelledWrongFalsely : Prop := fadeLabelledRow.holds Try.pinned (OpenSpec.ofChange fadeLabelledWrong)

/-- 'lampblacklaw08.FadeKnown': WHATEVER THE INPUT: true; the input reads as it did. -/
def fadeKnownSpec : ChangeSpec := { name := "fadeKnown", fn := fun _ => fun
  | [] => { results := [.lit (.bool true)], args := [] }
  | _ => none }
def fadeKnownRow : OpenClaim := { program := "ytnmgimjamahalaa", sum := "b2610cf4d5317fd5294a9ebbdaf85ef1d1d1143fd70e6ee53aab013f504d5a7c", func := "lampblack/lampblacklaw08.FadeKnown", spec := "fadeKnown", unfollowed := true, recurses := true, apart := false }
def FadeKnownSaid : Prop := fadeKnownRow.holds Try.pinned (OpenSpec.ofChange fadeKnownSpec)

/-- ITS FALSE NEIGHBOUR: 'it returns false'. Refute it at one input. -/
def fadeKnownWrong : ChangeSpec := { name := "fadeKnown", fn := fun _ => fun
  | [] => { results := [.lit (.bool false)], args := [] }
  | _ => none }
def FadeKnownWrongFalsely : Prop := fadeKnownRow.holds Try.pinned (OpenSpec.ofChange fadeKnownWrong)

/- THE SECOND FORM. 'bulk': how many values and letters a reading holds, each counted each time it is reached (what is shared counts as often as it is met; a slice's spare places count too). A statement '..UptoSaid' is the law's where the arguments, and the package variables that the reading takes, are together of bulk at most 1048576: NARROWER than '..Said'. Prove '..Said' where nothing that the law and all that it calls make is longer than what came in: it says more and counts as full. Else prove '..UptoSaid'. A law counts once. -/
mutual
def uptoBulk {H : Type} : DataW H → Nat
  | .lit (.string bytes) => bytes.length + 1
  | .lit _ => 1
  | .nil => 1
  | .ptr d => uptoBulk d + 1
  | .slice elems spare => uptoBulkAll elems + uptoBulkAll spare + 1
  | .agg parts => uptoBulkAll parts + 1
  | .iface _ d => uptoBulk d + 1
  | .map entries => uptoBulkEntries entries + 1
  | .held _ => 1
def uptoBulkAll {H : Type} : List (DataW H) → Nat
  | [] => 0
  | d :: r => uptoBulk d + uptoBulkAll r
def uptoBulkEntries {H : Type} : List (Lit × DataW H) → Nat
  | [] => 0
  | x :: r => uptoBulkEntry x + uptoBulkEntries r
def uptoBulkEntry {H : Type} : Lit × DataW H → Nat
  | (.string bytes, d) => bytes.length + uptoBulk d + 1
  | (_, d) => uptoBulk d + 1
 end
def uptoSmall : (H : Type) → List (DataW H) → Bool := fun _ ds => decide (uptoBulkAll ds ≤ 1048576)
def OpenSpec.upto (s : _root_.Go.ChangeSpec) : _root_.Go.OpenSpec := { _root_.Go.OpenSpec.ofChange s with cond := some uptoSmall }

/-- 'lampblacklaw08.FadePools', WHERE WHAT IT READS IS OF BULK AT MOST 1048576: true; the input reads as it did. -/
def fadePoolsUptoRow : OpenClaim := { program := "ytnmgimjamahalaa", sum := "b2610cf4d5317fd5294a9ebbdaf85ef1d1d1143fd70e6ee53aab013f504d5a7c", func := "lampblack/lampblacklaw08.FadePools", spec := "fadePools", unfollowed := true, recurses := true, apart := false, narrowed := true }
def FadePoolsUptoSaid : Prop := fadePoolsUptoRow.holds Try.pinned (OpenSpec.upto fadePoolsSpec)

/-- 'lampblacklaw08.FadeProofs', WHERE WHAT IT READS IS OF BULK AT MOST 1048576: true; the input reads as it did. -/
def fadeProofsUptoRow : OpenClaim := { program := "ytnmgimjamahalaa", sum := "b2610cf4d5317fd5294a9ebbdaf85ef1d1d1143fd70e6ee53aab013f504d5a7c", func := "lampblack/lampblacklaw08.FadeProofs", spec := "fadeProofs", unfollowed := true, recurses := true, apart := false, narrowed := true }
def FadeProofsUptoSaid : Prop := fadeProofsUptoRow.holds Try.pinned (OpenSpec.upto fadeProofsSpec)

/-- 'lampblacklaw08.FadeValues', WHERE WHAT IT READS IS OF BULK AT MOST 1048576: true; the input reads as it did. -/
def fadeValuesUptoRow : OpenClaim := { program := "ytnmgimjamahalaa", sum := "b2610cf4d5317fd5294a9ebbdaf85ef1d1d1143fd70e6ee53aab013f504d5a7c", func := "lampblack/lampblacklaw08.FadeValues", spec := "fadeValues", unfollowed := true, recurses := true, apart := false, narrowed := true }
def FadeValuesUptoSaid : Prop := fadeValuesUptoRow.holds Try.pinned (OpenSpec.upto fadeValuesSpec)

/-- 'lampblacklaw08.FadeLabels', WHERE WHAT IT READS IS OF BULK AT MOST 1048576: true; the input reads as it did. -/
def fadeLabelsUptoRow : OpenClaim := { program := "ytnmgimjamahalaa", sum := "b2610cf4d5317fd5294a9ebbdaf85ef1d1d1143fd70e6ee53aab013f504d5a7c", func := "lampblack/lampblacklaw08.FadeLabels", spec := "fadeLabels", unfollowed := true, recurses := true, apart := false, narrowed := true }
def FadeLabelsUptoSaid : Prop := fadeLabelsUptoRow.holds Try.pinned (OpenSpec.upto fadeLabelsSpec)

/-- 'lampblacklaw08.FadeNearest', WHERE WHAT IT READS IS OF BULK AT MOST 1048576: true; the input reads as it did. -/
def fadeNearestUptoRow : OpenClaim := { program := "ytnmgimjamahalaa", sum := "b2610cf4d5317fd5294a9ebbdaf85ef1d1d1143fd70e6ee53aab013f504d5a7c", func := "lampblack/lampblacklaw08.FadeNearest", spec := "fadeNearest", unfollowed := true, recurses := true, apart := false, narrowed := true }
def FadeNearestUptoSaid : Prop := fadeNearestUptoRow.holds Try.pinned (OpenSpec.upto fadeNearestSpec)

/-- 'lampblacklaw08.FadeLeast', WHERE WHAT IT READS IS OF BULK AT MOST 1048576: true; the input reads as it did. -/
def fadeLeastUptoRow : OpenClaim := { program := "ytnmgimjamahalaa", sum := "b2610cf4d5317fd5294a9ebbdaf85ef1d1d1143fd70e6ee53aab013f504d5a7c", func := "lampblack/lampblacklaw08.FadeLeast", spec := "fadeLeast", unfollowed := true, recurses := true, apart := false, narrowed := true }
def FadeLeastUptoSaid : Prop := fadeLeastUptoRow.holds Try.pinned (OpenSpec.upto fadeLeastSpec)

/-- 'lampblacklaw08.FadePooled', WHERE WHAT IT READS IS OF BULK AT MOST 1048576: true; the input reads as it did. -/
def fadePooledUptoRow : OpenClaim := { program := "ytnmgimjamahalaa", sum := "b2610cf4d5317fd5294a9ebbdaf85ef1d1d1143fd70e6ee53aab013f504d5a7c", func := "lampblack/lampblacklaw08.FadePooled", spec := "fadePooled", unfollowed := true, recurses := true, apart := false, narrowed := true }
def FadePooledUptoSaid : Prop := fadePooledUptoRow.holds Try.pinned (OpenSpec.upto fadePooledSpec)

/-- 'lampblacklaw08.FadeRising', WHERE WHAT IT READS IS OF BULK AT MOST 1048576: true; the input reads as it did. -/
def fadeRisingUptoRow : OpenClaim := { program := "ytnmgimjamahalaa", sum := "b2610cf4d5317fd5294a9ebbdaf85ef1d1d1143fd70e6ee53aab013f504d5a7c", func := "lampblack/lampblacklaw08.FadeRising", spec := "fadeRising", unfollowed := true, recurses := true, apart := false, narrowed := true }
def FadeRisingUptoSaid : Prop := fadeRisingUptoRow.holds Try.pinned (OpenSpec.upto fadeRisingSpec)

/-- 'lampblacklaw08.FadeLabelled', WHERE WHAT IT READS IS OF BULK AT MOST 1048576: true; the input reads as it did. -/
def fadeLabelledUptoRow : OpenClaim := { program := "ytnmgimjamahalaa", sum := "b2610cf4d5317fd5294a9ebbdaf85ef1d1d1143fd70e6ee53aab013f504d5a7c", func := "lampblack/lampblacklaw08.FadeLabelled", spec := "fadeLabelled", unfollowed := true, recurses := true, apart := false, narrowed := true }
def FadeLabelledUptoSaid : Prop := fadeLabelledUptoRow.holds Try.pinned (OpenSpec.upto fadeLabelledSpec)

/-- 'lampblacklaw08.FadeKnown', WHERE WHAT IT READS IS OF BULK AT MOST 1048576: true; the input reads as it did. -/
def fadeKnownUptoRow : OpenClaim := { program := "ytnmgimjamahalaa", sum := "b2610cf4d5317fd5294a9ebbdaf85ef1d1d1143fd70e6ee53aab013f504d5a7c", func := "lampblack/lampblacklaw08.FadeKnown", spec := "fadeKnown", unfollowed := true, recurses := true, apart := false, narrowed := true }
def FadeKnownUptoSaid : Prop := fadeKnownUptoRow.holds Try.pinned (OpenSpec.upto fadeKnownSpec)

end Rows
end Go.Proofs.Ytnmgimjamahalaa
