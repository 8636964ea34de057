/-
  No cell of these rows narrows 'for every input' (looked for: loops, veiled, ifaces, maps, wideKeys, modest, calm, conditions, laid).
  DERIVED. THE GIVEN ROWS OF THIS SEAT. 9 by the template 'for every input the law returns true; each argument reads behind the call as it read before'; 0 by the template 'total and deterministic' (their statements: YthmbpipeogdejaaTotals.lean).
  GIVEN WITH THE SEED: the statements are not yours to turn. If you find one false, say at which input.
  Laid BY PROGRAM, IN A SANDBOX (cutbox-rows.mjs): the forced cells as the released guide's own fill.sh prints them over the translation 6a7bb975846b35c4… (all of the seat's roots in one cut). By AI agents, Wed Nov 11 2026. No macro, syntax, notation, axiom, sorry.
-/
import Derived.Test.YthmbpipeogdejaaChecked
import GoSem.Claim
import GoSem.ClaimJoined
import GoSem.ClaimMapViews
import Derived.JoinedTies
import Derived.KernelRfl
namespace Go.Proofs.Ythmbpipeogdejaa
/- THE CELL 'sum', in the pinned program and in every row, IS THE sha256 OF THE DUMP (.gsa) THAT YthmbpipeogdejaaProg.lean LOADS. Nothing in Lean hashes anything: it is a label: what it is worth is what the hold of that sum in a sandbox is worth. -/
noncomputable def Try.pinned : Pinned := { name := "ythmbpipeogdejaa", sum := "6a7bb975846b35c47e3978e3676c2012f7cc44126ed2cff383d8437244e29578", checked := Try.checked }
namespace Rows
def none {H : Type} : Left H := { results := [], args := [] }

/-- 'intervalmonlaw09.ClockValid': WHATEVER THE INPUT: true; the input reads as it did. -/
def clockValidSpec : ChangeSpec := { name := "clockValid", fn := fun _ => fun
  | [d1, d2] => { results := [.lit (.bool true)], args := [d1, d2] }
  | _ => none }
def clockValidRow : OpenClaim := { program := "ythmbpipeogdejaa", sum := "6a7bb975846b35c47e3978e3676c2012f7cc44126ed2cff383d8437244e29578", func := "intervalmon/intervalmonlaw09.ClockValid", spec := "clockValid", unfollowed := true, recurses := true, apart := false }
def ClockValidSaid : Prop := clockValidRow.holds Try.pinned (OpenSpec.ofChange clockValidSpec)

/-- ITS FALSE NEIGHBOUR: 'it returns false'. Refute it at one input. -/
def clockValidWrong : ChangeSpec := { name := "clockValid", fn := fun _ => fun
  | [d1, d2] => { results := [.lit (.bool false)], args := [d1, d2] }
  | _ => none }
def ClockValidWrongFalsely : Prop := clockValidRow.holds Try.pinned (OpenSpec.ofChange clockValidWrong)

/-- 'intervalmonlaw09.ClockTicks': WHATEVER THE INPUT: true; the input reads as it did. -/
def clockTicksSpec : ChangeSpec := { name := "clockTicks", fn := fun _ => fun
  | [d1, d2, d3] => { results := [.lit (.bool true)], args := [d1, d2, d3] }
  | _ => none }
def clockTicksRow : OpenClaim := { program := "ythmbpipeogdejaa", sum := "6a7bb975846b35c47e3978e3676c2012f7cc44126ed2cff383d8437244e29578", func := "intervalmon/intervalmonlaw09.ClockTicks", spec := "clockTicks", unfollowed := true, recurses := true, apart := false }
def ClockTicksSaid : Prop := clockTicksRow.holds Try.pinned (OpenSpec.ofChange clockTicksSpec)

/-- ITS FALSE NEIGHBOUR: 'it returns false'. Refute it at one input. -/
def clockTicksWrong : ChangeSpec := { name := "clockTicks", fn := fun _ => fun
  | [d1, d2, d3] => { results := [.lit (.bool false)], args := [d1, d2, d3] }
  | _ => none }
def ClockTicksWrongFalsely : Prop := clockTicksRow.holds Try.pinned (OpenSpec.ofChange clockTicksWrong)

/-- 'intervalmonlaw09.ClockOffset': WHATEVER THE INPUT: true; the input reads as it did. -/
def clockOffsetSpec : ChangeSpec := { name := "clockOffset", fn := fun _ => fun
  | [d1, d2, d3] => { results := [.lit (.bool true)], args := [d1, d2, d3] }
  | _ => none }
def clockOffsetRow : OpenClaim := { program := "ythmbpipeogdejaa", sum := "6a7bb975846b35c47e3978e3676c2012f7cc44126ed2cff383d8437244e29578", func := "intervalmon/intervalmonlaw09.ClockOffset", spec := "clockOffset", unfollowed := true, recurses := true, apart := false }
def ClockOffsetSaid : Prop := clockOffsetRow.holds Try.pinned (OpenSpec.ofChange clockOffsetSpec)

/-- ITS FALSE NEIGHBOUR: 'it returns false'. Refute it at one input. -/
def clockOffsetWrong : ChangeSpec := { name := "clockOffset", fn := fun _ => fun
  | [d1, d2, d3] => { results := [.lit (.bool false)], args := [d1, d2, d3] }
  | _ => none }
def ClockOffsetWrongFalsely : Prop := clockOffsetRow.holds Try.pinned (OpenSpec.ofChange clockOffsetWrong)

/-- 'intervalmonlaw09.ClockAgrees': WHATEVER THE INPUT: true; the input reads as it did. -/
def clockAgreesSpec : ChangeSpec := { name := "clockAgrees", fn := fun _ => fun
  | [d1, d2, d3, d4] => { results := [.lit (.bool true)], args := [d1, d2, d3, d4] }
  | _ => none }
def clockAgreesRow : OpenClaim := { program := "ythmbpipeogdejaa", sum := "6a7bb975846b35c47e3978e3676c2012f7cc44126ed2cff383d8437244e29578", func := "intervalmon/intervalmonlaw09.ClockAgrees", spec := "clockAgrees", unfollowed := true, recurses := true, apart := false }
def ClockAgreesSaid : Prop := clockAgreesRow.holds Try.pinned (OpenSpec.ofChange clockAgreesSpec)

/-- ITS FALSE NEIGHBOUR: 'it returns false'. Refute it at one input. -/
def clockAgreesWrong : ChangeSpec := { name := "clockAgrees", fn := fun _ => fun
  | [d1, d2, d3, d4] => { results := [.lit (.bool false)], args := [d1, d2, d3, d4] }
  | _ => none }
def ClockAgreesWrongFalsely : Prop := clockAgreesRow.holds Try.pinned (OpenSpec.ofChange clockAgreesWrong)

/-- 'intervalmonlaw09.ClockContains': WHATEVER THE INPUT: true; the input reads as it did. -/
def clockContainsSpec : ChangeSpec := { name := "clockContains", fn := fun _ => fun
  | [d1, d2] => { results := [.lit (.bool true)], args := [d1, d2] }
  | _ => none }
def clockContainsRow : OpenClaim := { program := "ythmbpipeogdejaa", sum := "6a7bb975846b35c47e3978e3676c2012f7cc44126ed2cff383d8437244e29578", func := "intervalmon/intervalmonlaw09.ClockContains", spec := "clockContains", unfollowed := true, recurses := true, apart := false }
def ClockContainsSaid : Prop := clockContainsRow.holds Try.pinned (OpenSpec.ofChange clockContainsSpec)

/-- ITS FALSE NEIGHBOUR: 'it returns false'. Refute it at one input. -/
def clockContainsWrong : ChangeSpec := { name := "clockContains", fn := fun _ => fun
  | [d1, d2] => { results := [.lit (.bool false)], args := [d1, d2] }
  | _ => none }
def ClockContainsWrongFalsely : Prop := clockContainsRow.holds Try.pinned (OpenSpec.ofChange clockContainsWrong)

/-- 'intervalmonlaw09.ClockDual': WHATEVER THE INPUT: true; the input reads as it did. -/
def clockDualSpec : ChangeSpec := { name := "clockDual", fn := fun _ => fun
  | [d1, d2, d3, d4] => { results := [.lit (.bool true)], args := [d1, d2, d3, d4] }
  | _ => none }
def clockDualRow : OpenClaim := { program := "ythmbpipeogdejaa", sum := "6a7bb975846b35c47e3978e3676c2012f7cc44126ed2cff383d8437244e29578", func := "intervalmon/intervalmonlaw09.ClockDual", spec := "clockDual", unfollowed := true, recurses := true, apart := false }
def ClockDualSaid : Prop := clockDualRow.holds Try.pinned (OpenSpec.ofChange clockDualSpec)

/-- ITS FALSE NEIGHBOUR: 'it returns false'. Refute it at one input. -/
def clockDualWrong : ChangeSpec := { name := "clockDual", fn := fun _ => fun
  | [d1, d2, d3, d4] => { results := [.lit (.bool false)], args := [d1, d2, d3, d4] }
  | _ => none }
def ClockDualWrongFalsely : Prop := clockDualRow.holds Try.pinned (OpenSpec.ofChange clockDualWrong)

/-- 'intervalmonlaw09.ClockNarrows': WHATEVER THE INPUT: true; the input reads as it did. -/
def clockNarrowsSpec : ChangeSpec := { name := "clockNarrows", fn := fun _ => fun
  | [d1, d2, d3, d4] => { results := [.lit (.bool true)], args := [d1, d2, d3, d4] }
  | _ => none }
def clockNarrowsRow : OpenClaim := { program := "ythmbpipeogdejaa", sum := "6a7bb975846b35c47e3978e3676c2012f7cc44126ed2cff383d8437244e29578", func := "intervalmon/intervalmonlaw09.ClockNarrows", spec := "clockNarrows", unfollowed := true, recurses := true, apart := false }
def ClockNarrowsSaid : Prop := clockNarrowsRow.holds Try.pinned (OpenSpec.ofChange clockNarrowsSpec)

/-- ITS FALSE NEIGHBOUR: 'it returns false'. Refute it at one input. -/
def clockNarrowsWrong : ChangeSpec := { name := "clockNarrows", fn := fun _ => fun
  | [d1, d2, d3, d4] => { results := [.lit (.bool false)], args := [d1, d2, d3, d4] }
  | _ => none }
def ClockNarrowsWrongFalsely : Prop := clockNarrowsRow.holds Try.pinned (OpenSpec.ofChange clockNarrowsWrong)

/-- 'intervalmonlaw09.ClockLimits': WHATEVER THE INPUT: true; the input reads as it did. -/
def clockLimitsSpec : ChangeSpec := { name := "clockLimits", fn := fun _ => fun
  | [d1, d2, d3, d4] => { results := [.lit (.bool true)], args := [d1, d2, d3, d4] }
  | _ => none }
def clockLimitsRow : OpenClaim := { program := "ythmbpipeogdejaa", sum := "6a7bb975846b35c47e3978e3676c2012f7cc44126ed2cff383d8437244e29578", func := "intervalmon/intervalmonlaw09.ClockLimits", spec := "clockLimits", unfollowed := true, recurses := true, apart := false }
def ClockLimitsSaid : Prop := clockLimitsRow.holds Try.pinned (OpenSpec.ofChange clockLimitsSpec)

/-- ITS FALSE NEIGHBOUR: 'it returns false'. Refute it at one input. -/
def clockLimitsWrong : ChangeSpec := { name := "clockLimits", fn := fun _ => fun
  | [d1, d2, d3, d4] => { results := [.lit (.bool false)], args := [d1, d2, d3, d4] }
  | _ => none }
def ClockLimitsWrongFalsely : Prop := clockLimitsRow.holds Try.pinned (OpenSpec.ofChange clockLimitsWrong)

/-- 'intervalmonlaw09.ClockRate': WHATEVER THE INPUT: true; the input reads as it did. -/
def clockRateSpec : ChangeSpec := { name := "clockRate", fn := fun _ => fun
  | [d1, d2, d3, d4] => { results := [.lit (.bool true)], args := [d1, d2, d3, d4] }
  | _ => none }
def clockRateRow : OpenClaim := { program := "ythmbpipeogdejaa", sum := "6a7bb975846b35c47e3978e3676c2012f7cc44126ed2cff383d8437244e29578", func := "intervalmon/intervalmonlaw09.ClockRate", spec := "clockRate", inPlace := ["math/bits.Add64", "math/bits.Sub64"], unfollowed := true, recurses := true, named := ["math/bits.divideError", "math/bits.overflowError"], apart := false }
def ClockRateSaid : Prop := clockRateRow.holds Try.pinned (OpenSpec.ofChange clockRateSpec)

/-- ITS FALSE NEIGHBOUR: 'it returns false'. Refute it at one input. -/
def clockRateWrong : ChangeSpec := { name := "clockRate", fn := fun _ => fun
  | [d1, d2, d3, d4] => { results := [.lit (.bool false)], args := [d1, d2, d3, d4] }
  | _ => none }
def ClockRateWrongFalsely : Prop := clockRateRow.holds Try.pinned (OpenSpec.ofChange clockRateWrong)

/- THE SECOND FORM. 'bulk': how many values and letters a reading holds, each counted each time it is reached (what is shared counts as often as it is met; a slice's spare places count too). A statement '..UptoSaid' is the law's where the arguments, and the package variables that the reading takes, are together of bulk at most 1048576: NARROWER than '..Said'. Prove '..Said' where nothing that the law and all that it calls make is longer than what came in: it says more and counts as full. Else prove '..UptoSaid'. A law counts once. -/
mutual
def uptoBulk {H : Type} : DataW H → Nat
  | .lit (.string bytes) => bytes.length + 1
  | .lit _ => 1
  | .nil => 1
  | .ptr d => uptoBulk d + 1
  | .slice elems spare => uptoBulkAll elems + uptoBulkAll spare + 1
  | .agg parts => uptoBulkAll parts + 1
  | .iface _ d => uptoBulk d + 1
  | .map entries => uptoBulkEntries entries + 1
  | .held _ => 1
def uptoBulkAll {H : Type} : List (DataW H) → Nat
  | [] => 0
  | d :: r => uptoBulk d + uptoBulkAll r
def uptoBulkEntries {H : Type} : List (Lit × DataW H) → Nat
  | [] => 0
  | x :: r => uptoBulkEntry x + uptoBulkEntries r
def uptoBulkEntry {H : Type} : Lit × DataW H → Nat
  | (.string bytes, d) => bytes.length + uptoBulk d + 1
  | (_, d) => uptoBulk d + 1
 end
def uptoSmall : (H : Type) → List (DataW H) → Bool := fun _ ds => decide (uptoBulkAll ds ≤ 1048576)
def OpenSpec.upto (s : _root_.Go.ChangeSpec) : _root_.Go.OpenSpec := { _root_.Go.OpenSpec.ofChange s with cond := some uptoSmall }

/-- 'intervalmonlaw09.ClockValid', WHERE WHAT IT READS IS OF BULK AT MOST 1048576: true; the input reads as it did. -/
def clockValidUptoRow : OpenClaim := { program := "ythmbpipeogdejaa", sum := "6a7bb975846b35c47e3978e3676c2012f7cc44126ed2cff383d8437244e29578", func := "intervalmon/intervalmonlaw09.ClockValid", spec := "clockValid", unfollowed := true, recurses := true, apart := false, narrowed := true }
def ClockValidUptoSaid : Prop := clockValidUptoRow.holds Try.pinned (OpenSpec.upto clockValidSpec)

/-- 'intervalmonlaw09.ClockTicks', WHERE WHAT IT READS IS OF BULK AT MOST 1048576: true; the input reads as it did. -/
def clockTicksUptoRow : OpenClaim := { program := "ythmbpipeogdejaa", sum := "6a7bb975846b35c47e3978e3676c2012f7cc44126ed2cff383d8437244e29578", func := "intervalmon/intervalmonlaw09.ClockTicks", spec := "clockTicks", unfollowed := true, recurses := true, apart := false, narrowed := true }
def ClockTicksUptoSaid : Prop := clockTicksUptoRow.holds Try.pinned (OpenSpec.upto clockTicksSpec)

/-- 'intervalmonlaw09.ClockOffset', WHERE WHAT IT READS IS OF BULK AT MOST 1048576: true; the input reads as it did. -/
def clockOffsetUptoRow : OpenClaim := { program := "ythmbpipeogdejaa", sum := "6a7bb975846b35c47e3978e3676c2012f7cc44126ed2cff383d8437244e29578", func := "intervalmon/intervalmonlaw09.ClockOffset", spec := "clockOffset", unfollowed := true, recurses := true, apart := false, narrowed := true }
def ClockOffsetUptoSaid : Prop := clockOffsetUptoRow.holds Try.pinned (OpenSpec.upto clockOffsetSpec)

/-- 'intervalmonlaw09.ClockAgrees', WHERE WHAT IT READS IS OF BULK AT MOST 1048576: true; the input reads as it did. -/
def clockAgreesUptoRow : OpenClaim := { program := "ythmbpipeogdejaa", sum := "6a7bb975846b35c47e3978e3676c2012f7cc44126ed2cff383d8437244e29578", func := "intervalmon/intervalmonlaw09.ClockAgrees", spec := "clockAgrees", unfollowed := true, recurses := true, apart := false, narrowed := true }
def ClockAgreesUptoSaid : Prop := clockAgreesUptoRow.holds Try.pinned (OpenSpec.upto clockAgreesSpec)

/-- 'intervalmonlaw09.ClockContains', WHERE WHAT IT READS IS OF BULK AT MOST 1048576: true; the input reads as it did. -/
def clockContainsUptoRow : OpenClaim := { program := "ythmbpipeogdejaa", sum := "6a7bb975846b35c47e3978e3676c2012f7cc44126ed2cff383d8437244e29578", func := "intervalmon/intervalmonlaw09.ClockContains", spec := "clockContains", unfollowed := true, recurses := true, apart := false, narrowed := true }
def ClockContainsUptoSaid : Prop := clockContainsUptoRow.holds Try.pinned (OpenSpec.upto clockContainsSpec)

/-- 'intervalmonlaw09.ClockDual', WHERE WHAT IT READS IS OF BULK AT MOST 1048576: true; the input reads as it did. -/
def clockDualUptoRow : OpenClaim := { program := "ythmbpipeogdejaa", sum := "6a7bb975846b35c47e3978e3676c2012f7cc44126ed2cff383d8437244e29578", func := "intervalmon/intervalmonlaw09.ClockDual", spec := "clockDual", unfollowed := true, recurses := true, apart := false, narrowed := true }
def ClockDualUptoSaid : Prop := clockDualUptoRow.holds Try.pinned (OpenSpec.upto clockDualSpec)

/-- 'intervalmonlaw09.ClockNarrows', WHERE WHAT IT READS IS OF BULK AT MOST 1048576: true; the input reads as it did. -/
def clockNarrowsUptoRow : OpenClaim := { program := "ythmbpipeogdejaa", sum := "6a7bb975846b35c47e3978e3676c2012f7cc44126ed2cff383d8437244e29578", func := "intervalmon/intervalmonlaw09.ClockNarrows", spec := "clockNarrows", unfollowed := true, recurses := true, apart := false, narrowed := true }
def ClockNarrowsUptoSaid : Prop := clockNarrowsUptoRow.holds Try.pinned (OpenSpec.upto clockNarrowsSpec)

/-- 'intervalmonlaw09.ClockLimits', WHERE WHAT IT READS IS OF BULK AT MOST 1048576: true; the input reads as it did. -/
def clockLimitsUptoRow : OpenClaim := { program := "ythmbpipeogdejaa", sum := "6a7bb975846b35c47e3978e3676c2012f7cc44126ed2cff383d8437244e29578", func := "intervalmon/intervalmonlaw09.ClockLimits", spec := "clockLimits", unfollowed := true, recurses := true, apart := false, narrowed := true }
def ClockLimitsUptoSaid : Prop := clockLimitsUptoRow.holds Try.pinned (OpenSpec.upto clockLimitsSpec)

/-- 'intervalmonlaw09.ClockRate', WHERE WHAT IT READS IS OF BULK AT MOST 1048576: true; the input reads as it did. -/
def clockRateUptoRow : OpenClaim := { program := "ythmbpipeogdejaa", sum := "6a7bb975846b35c47e3978e3676c2012f7cc44126ed2cff383d8437244e29578", func := "intervalmon/intervalmonlaw09.ClockRate", spec := "clockRate", inPlace := ["math/bits.Add64", "math/bits.Sub64"], unfollowed := true, recurses := true, named := ["math/bits.divideError", "math/bits.overflowError"], apart := false, narrowed := true }
def ClockRateUptoSaid : Prop := clockRateUptoRow.holds Try.pinned (OpenSpec.upto clockRateSpec)

end Rows
end Go.Proofs.Ythmbpipeogdejaa
