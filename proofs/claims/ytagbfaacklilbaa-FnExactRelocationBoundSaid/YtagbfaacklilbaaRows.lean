/-
  No cell of these rows narrows 'for every input' (looked for: loops, veiled, ifaces, maps, wideKeys, modest, calm, conditions, laid).
  DERIVED. THE GIVEN ROWS OF THIS SEAT. 11 by the template 'for every input the law returns true; each argument reads behind the call as it read before'; 0 by the template 'total and deterministic' (their statements: YtagbfaacklilbaaTotals.lean).
  GIVEN WITH THE SEED: the statements are not yours to turn. If you find one false, say at which input.
  Laid BY PROGRAM, IN A SANDBOX (cutbox-rows.mjs): the forced cells as the released guide's own fill.sh prints them over the translation ea341101ef3a98e2… (all of the seat's roots in one cut). By AI agents, Wed Nov 11 2026. No macro, syntax, notation, axiom, sorry.
-/
import Derived.Test.YtagbfaacklilbaaChecked
import GoSem.Claim
import GoSem.ClaimJoined
import GoSem.ClaimMapViews
import Derived.JoinedTies
import Derived.KernelRfl
namespace Go.Proofs.Ytagbfaacklilbaa
/- THE CELL 'sum', in the pinned program and in every row, IS THE sha256 OF THE DUMP (.gsa) THAT YtagbfaacklilbaaProg.lean LOADS. Nothing in Lean hashes anything: it is a label: what it is worth is what the hold of that sum in a sandbox is worth. -/
noncomputable def Try.pinned : Pinned := { name := "ytagbfaacklilbaa", sum := "ea341101ef3a98e2ef6c88605123483e78e6eed534c685f94fe73ecc07ec98af", checked := Try.checked }
namespace Rows
def none {H : Type} : Left H := { results := [], args := [] }

/-- 'laws.FnExactIsValidRotation': WHATEVER THE INPUT: true; the input reads as it did. -/
def fnExactIsValidRotationSpec : ChangeSpec := { name := "fnExactIsValidRotation", fn := fun _ => fun
  | [d] => { results := [.lit (.bool true)], args := [d] }
  | _ => none }
def fnExactIsValidRotationRow : OpenClaim := { program := "ytagbfaacklilbaa", sum := "ea341101ef3a98e2ef6c88605123483e78e6eed534c685f94fe73ecc07ec98af", func := "loop.example/g00906/laws.FnExactIsValidRotation", spec := "fnExactIsValidRotation", apart := false }
def FnExactIsValidRotationSaid : Prop := fnExactIsValidRotationRow.holds Try.pinned (OpenSpec.ofChange fnExactIsValidRotationSpec)

/-- ITS FALSE NEIGHBOUR: 'it returns false'. Refute it at one input. -/
def fnExactIsValidRotationWrong : ChangeSpec := { name := "fnExactIsValidRotation", fn := fun _ => fun
  | [d] => { results := [.lit (.bool false)], args := [d] }
  | _ => none }
def FnExactIsValidRotationWrongFalsely : Prop := fnExactIsValidRotationRow.holds Try.pinned (OpenSpec.ofChange fnExactIsValidRotationWrong)

/-- 'laws.FnExactCycleDays': WHATEVER THE INPUT: true; the input reads as it did. -/
def fnExactCycleDaysSpec : ChangeSpec := { name := "fnExactCycleDays", fn := fun _ => fun
  | [d] => { results := [.lit (.bool true)], args := [d] }
  | _ => none }
def fnExactCycleDaysRow : OpenClaim := { program := "ytagbfaacklilbaa", sum := "ea341101ef3a98e2ef6c88605123483e78e6eed534c685f94fe73ecc07ec98af", func := "loop.example/g00906/laws.FnExactCycleDays", spec := "fnExactCycleDays", apart := false }
def FnExactCycleDaysSaid : Prop := fnExactCycleDaysRow.holds Try.pinned (OpenSpec.ofChange fnExactCycleDaysSpec)

/-- ITS FALSE NEIGHBOUR: 'it returns false'. Refute it at one input. -/
def fnExactCycleDaysWrong : ChangeSpec := { name := "fnExactCycleDays", fn := fun _ => fun
  | [d] => { results := [.lit (.bool false)], args := [d] }
  | _ => none }
def FnExactCycleDaysWrongFalsely : Prop := fnExactCycleDaysRow.holds Try.pinned (OpenSpec.ofChange fnExactCycleDaysWrong)

/-- 'laws.FnExactDaysBetween': WHATEVER THE INPUT: true; the input reads as it did. -/
def fnExactDaysBetweenSpec : ChangeSpec := { name := "fnExactDaysBetween", fn := fun _ => fun
  | [d1, d2, d3] => { results := [.lit (.bool true)], args := [d1, d2, d3] }
  | _ => none }
def fnExactDaysBetweenRow : OpenClaim := { program := "ytagbfaacklilbaa", sum := "ea341101ef3a98e2ef6c88605123483e78e6eed534c685f94fe73ecc07ec98af", func := "loop.example/g00906/laws.FnExactDaysBetween", spec := "fnExactDaysBetween", unfollowed := true, recurses := true, apart := false }
def FnExactDaysBetweenSaid : Prop := fnExactDaysBetweenRow.holds Try.pinned (OpenSpec.ofChange fnExactDaysBetweenSpec)

/-- ITS FALSE NEIGHBOUR: 'it returns false'. Refute it at one input. -/
def fnExactDaysBetweenWrong : ChangeSpec := { name := "fnExactDaysBetween", fn := fun _ => fun
  | [d1, d2, d3] => { results := [.lit (.bool false)], args := [d1, d2, d3] }
  | _ => none }
def FnExactDaysBetweenWrongFalsely : Prop := fnExactDaysBetweenRow.holds Try.pinned (OpenSpec.ofChange fnExactDaysBetweenWrong)

/-- 'laws.FnExactSameCycle': WHATEVER THE INPUT: true; the input reads as it did. -/
def fnExactSameCycleSpec : ChangeSpec := { name := "fnExactSameCycle", fn := fun _ => fun
  | [d1, d2] => { results := [.lit (.bool true)], args := [d1, d2] }
  | _ => none }
def fnExactSameCycleRow : OpenClaim := { program := "ytagbfaacklilbaa", sum := "ea341101ef3a98e2ef6c88605123483e78e6eed534c685f94fe73ecc07ec98af", func := "loop.example/g00906/laws.FnExactSameCycle", spec := "fnExactSameCycle", apart := false }
def FnExactSameCycleSaid : Prop := fnExactSameCycleRow.holds Try.pinned (OpenSpec.ofChange fnExactSameCycleSpec)

/-- ITS FALSE NEIGHBOUR: 'it returns false'. Refute it at one input. -/
def fnExactSameCycleWrong : ChangeSpec := { name := "fnExactSameCycle", fn := fun _ => fun
  | [d1, d2] => { results := [.lit (.bool false)], args := [d1, d2] }
  | _ => none }
def FnExactSameCycleWrongFalsely : Prop := fnExactSameCycleRow.holds Try.pinned (OpenSpec.ofChange fnExactSameCycleWrong)

/-- 'laws.FnExactNextCall': WHATEVER THE INPUT: true; the input reads as it did. -/
def fnExactNextCallSpec : ChangeSpec := { name := "fnExactNextCall", fn := fun _ => fun
  | [d1, d2, d3] => { results := [.lit (.bool true)], args := [d1, d2, d3] }
  | _ => none }
def fnExactNextCallRow : OpenClaim := { program := "ytagbfaacklilbaa", sum := "ea341101ef3a98e2ef6c88605123483e78e6eed534c685f94fe73ecc07ec98af", func := "loop.example/g00906/laws.FnExactNextCall", spec := "fnExactNextCall", unfollowed := true, recurses := true, apart := false }
def FnExactNextCallSaid : Prop := fnExactNextCallRow.holds Try.pinned (OpenSpec.ofChange fnExactNextCallSpec)

/-- ITS FALSE NEIGHBOUR: 'it returns false'. Refute it at one input. -/
def fnExactNextCallWrong : ChangeSpec := { name := "fnExactNextCall", fn := fun _ => fun
  | [d1, d2, d3] => { results := [.lit (.bool false)], args := [d1, d2, d3] }
  | _ => none }
def FnExactNextCallWrongFalsely : Prop := fnExactNextCallRow.holds Try.pinned (OpenSpec.ofChange fnExactNextCallWrong)

/-- 'laws.FnExactBestLoading': WHATEVER THE INPUT: true; the input reads as it did. -/
def fnExactBestLoadingSpec : ChangeSpec := { name := "fnExactBestLoading", fn := fun _ => fun
  | [d1, d2, d3] => { results := [.lit (.bool true)], args := [d1, d2, d3] }
  | _ => none }
def fnExactBestLoadingRow : OpenClaim := { program := "ytagbfaacklilbaa", sum := "ea341101ef3a98e2ef6c88605123483e78e6eed534c685f94fe73ecc07ec98af", func := "loop.example/g00906/laws.FnExactBestLoading", spec := "fnExactBestLoading", apart := false }
def FnExactBestLoadingSaid : Prop := fnExactBestLoadingRow.holds Try.pinned (OpenSpec.ofChange fnExactBestLoadingSpec)

/-- ITS FALSE NEIGHBOUR: 'it returns false'. Refute it at one input. -/
def fnExactBestLoadingWrong : ChangeSpec := { name := "fnExactBestLoading", fn := fun _ => fun
  | [d1, d2, d3] => { results := [.lit (.bool false)], args := [d1, d2, d3] }
  | _ => none }
def FnExactBestLoadingWrongFalsely : Prop := fnExactBestLoadingRow.holds Try.pinned (OpenSpec.ofChange fnExactBestLoadingWrong)

/-- 'laws.FnExactTurnRotation': WHATEVER THE INPUT: true; the input reads as it did. -/
def fnExactTurnRotationSpec : ChangeSpec := { name := "fnExactTurnRotation", fn := fun _ => fun
  | [d1, d2] => { results := [.lit (.bool true)], args := [d1, d2] }
  | _ => none }
def fnExactTurnRotationRow : OpenClaim := { program := "ytagbfaacklilbaa", sum := "ea341101ef3a98e2ef6c88605123483e78e6eed534c685f94fe73ecc07ec98af", func := "loop.example/g00906/laws.FnExactTurnRotation", spec := "fnExactTurnRotation", unfollowed := true, recurses := true, apart := false }
def FnExactTurnRotationSaid : Prop := fnExactTurnRotationRow.holds Try.pinned (OpenSpec.ofChange fnExactTurnRotationSpec)

/-- ITS FALSE NEIGHBOUR: 'it returns false'. Refute it at one input. -/
def fnExactTurnRotationWrong : ChangeSpec := { name := "fnExactTurnRotation", fn := fun _ => fun
  | [d1, d2] => { results := [.lit (.bool false)], args := [d1, d2] }
  | _ => none }
def FnExactTurnRotationWrongFalsely : Prop := fnExactTurnRotationRow.holds Try.pinned (OpenSpec.ofChange fnExactTurnRotationWrong)

/-- 'laws.FnExactPortsAhead': WHATEVER THE INPUT: true; the input reads as it did. -/
def fnExactPortsAheadSpec : ChangeSpec := { name := "fnExactPortsAhead", fn := fun _ => fun
  | [d1, d2] => { results := [.lit (.bool true)], args := [d1, d2] }
  | _ => none }
def fnExactPortsAheadRow : OpenClaim := { program := "ytagbfaacklilbaa", sum := "ea341101ef3a98e2ef6c88605123483e78e6eed534c685f94fe73ecc07ec98af", func := "loop.example/g00906/laws.FnExactPortsAhead", spec := "fnExactPortsAhead", unfollowed := true, recurses := true, apart := false }
def FnExactPortsAheadSaid : Prop := fnExactPortsAheadRow.holds Try.pinned (OpenSpec.ofChange fnExactPortsAheadSpec)

/-- ITS FALSE NEIGHBOUR: 'it returns false'. Refute it at one input. -/
def fnExactPortsAheadWrong : ChangeSpec := { name := "fnExactPortsAhead", fn := fun _ => fun
  | [d1, d2] => { results := [.lit (.bool false)], args := [d1, d2] }
  | _ => none }
def FnExactPortsAheadWrongFalsely : Prop := fnExactPortsAheadRow.holds Try.pinned (OpenSpec.ofChange fnExactPortsAheadWrong)

/-- 'laws.FnExactRelocationBound': WHATEVER THE INPUT: true; the input reads as it did. -/
def fnExactRelocationBoundSpec : ChangeSpec := { name := "fnExactRelocationBound", fn := fun _ => fun
  | [d1, d2] => { results := [.lit (.bool true)], args := [d1, d2] }
  | _ => none }
def fnExactRelocationBoundRow : OpenClaim := { program := "ytagbfaacklilbaa", sum := "ea341101ef3a98e2ef6c88605123483e78e6eed534c685f94fe73ecc07ec98af", func := "loop.example/g00906/laws.FnExactRelocationBound", spec := "fnExactRelocationBound", unfollowed := true, recurses := true, apart := false }
def FnExactRelocationBoundSaid : Prop := fnExactRelocationBoundRow.holds Try.pinned (OpenSpec.ofChange fnExactRelocationBoundSpec)

/-- ITS FALSE NEIGHBOUR: 'it returns false'. Refute it at one input. -/
def fnExactRelocationBoundWrong : ChangeSpec := { name := "fnExactRelocationBound", fn := fun _ => fun
  | [d1, d2] => { results := [.lit (.bool false)], args := [d1, d2] }
  | _ => none }
def FnExactRelocationBoundWrongFalsely : Prop := fnExactRelocationBoundRow.holds Try.pinned (OpenSpec.ofChange fnExactRelocationBoundWrong)

/-- 'laws.FnExactIsPlan': WHATEVER THE INPUT: true; the input reads as it did. -/
def fnExactIsPlanSpec : ChangeSpec := { name := "fnExactIsPlan", fn := fun _ => fun
  | [d1, d2, d3] => { results := [.lit (.bool true)], args := [d1, d2, d3] }
  | _ => none }
def fnExactIsPlanRow : OpenClaim := { program := "ytagbfaacklilbaa", sum := "ea341101ef3a98e2ef6c88605123483e78e6eed534c685f94fe73ecc07ec98af", func := "loop.example/g00906/laws.FnExactIsPlan", spec := "fnExactIsPlan", apart := false }
def FnExactIsPlanSaid : Prop := fnExactIsPlanRow.holds Try.pinned (OpenSpec.ofChange fnExactIsPlanSpec)

/-- ITS FALSE NEIGHBOUR: 'it returns false'. Refute it at one input. -/
def fnExactIsPlanWrong : ChangeSpec := { name := "fnExactIsPlan", fn := fun _ => fun
  | [d1, d2, d3] => { results := [.lit (.bool false)], args := [d1, d2, d3] }
  | _ => none }
def FnExactIsPlanWrongFalsely : Prop := fnExactIsPlanRow.holds Try.pinned (OpenSpec.ofChange fnExactIsPlanWrong)

/-- 'laws.FnCalls': WHATEVER THE INPUT: true; the input reads as it did. -/
def fnCallsSpec : ChangeSpec := { name := "fnCalls", fn := fun _ => fun
  | [d] => { results := [.lit (.bool true)], args := [d] }
  | _ => none }
def fnCallsRow : OpenClaim := { program := "ytagbfaacklilbaa", sum := "ea341101ef3a98e2ef6c88605123483e78e6eed534c685f94fe73ecc07ec98af", func := "loop.example/g00906/laws.FnCalls", spec := "fnCalls", unfollowed := true, recurses := true, apart := false }
def FnCallsSaid : Prop := fnCallsRow.holds Try.pinned (OpenSpec.ofChange fnCallsSpec)

/-- ITS FALSE NEIGHBOUR: 'it returns false'. Refute it at one input. -/
def fnCallsWrong : ChangeSpec := { name := "fnCalls", fn := fun _ => fun
  | [d] => { results := [.lit (.bool false)], args := [d] }
  | _ => none }
def FnCallsWrongFalsely : Prop := fnCallsRow.holds Try.pinned (OpenSpec.ofChange fnCallsWrong)

/- THE SECOND FORM. 'bulk': how many values and letters a reading holds, each counted each time it is reached (what is shared counts as often as it is met; a slice's spare places count too). A statement '..UptoSaid' is the law's where the arguments, and the package variables that the reading takes, are together of bulk at most 1048576: NARROWER than '..Said'. Prove '..Said' where nothing that the law and all that it calls make is longer than what came in: it says more and counts as full. Else prove '..UptoSaid'. A law counts once. -/
mutual
def uptoBulk {H : Type} : DataW H → Nat
  | .lit (.string bytes) => bytes.length + 1
  | .lit _ => 1
  | .nil => 1
  | .ptr d => uptoBulk d + 1
  | .slice elems spare => uptoBulkAll elems + uptoBulkAll spare + 1
  | .agg parts => uptoBulkAll parts + 1
  | .iface _ d => uptoBulk d + 1
  | .map entries => uptoBulkEntries entries + 1
  | .held _ => 1
def uptoBulkAll {H : Type} : List (DataW H) → Nat
  | [] => 0
  | d :: r => uptoBulk d + uptoBulkAll r
def uptoBulkEntries {H : Type} : List (Lit × DataW H) → Nat
  | [] => 0
  | x :: r => uptoBulkEntry x + uptoBulkEntries r
def uptoBulkEntry {H : Type} : Lit × DataW H → Nat
  | (.string bytes, d) => bytes.length + uptoBulk d + 1
  | (_, d) => uptoBulk d + 1
 end
def uptoSmall : (H : Type) → List (DataW H) → Bool := fun _ ds => decide (uptoBulkAll ds ≤ 1048576)
def OpenSpec.upto (s : _root_.Go.ChangeSpec) : _root_.Go.OpenSpec := { _root_.Go.OpenSpec.ofChange s with cond := some uptoSmall }

/-- 'laws.FnExactIsValidRotation', WHERE WHAT IT READS IS OF BULK AT MOST 1048576: true; the input reads as it did. -/
def fnExactIsValidRotationUptoRow : OpenClaim := { program := "ytagbfaacklilbaa", sum := "ea341101ef3a98e2ef6c88605123483e78e6eed534c685f94fe73ecc07ec98af", func := "loop.example/g00906/laws.FnExactIsValidRotation", spec := "fnExactIsValidRotation", apart := false, narrowed := true }
def FnExactIsValidRotationUptoSaid : Prop := fnExactIsValidRotationUptoRow.holds Try.pinned (OpenSpec.upto fnExactIsValidRotationSpec)

/-- 'laws.FnExactCycleDays', WHERE WHAT IT READS IS OF BULK AT MOST 1048576: true; the input reads as it did. -/
def fnExactCycleDaysUptoRow : OpenClaim := { program := "ytagbfaacklilbaa", sum := "ea341101ef3a98e2ef6c88605123483e78e6eed534c685f94fe73ecc07ec98af", func := "loop.example/g00906/laws.FnExactCycleDays", spec := "fnExactCycleDays", apart := false, narrowed := true }
def FnExactCycleDaysUptoSaid : Prop := fnExactCycleDaysUptoRow.holds Try.pinned (OpenSpec.upto fnExactCycleDaysSpec)

/-- 'laws.FnExactDaysBetween', WHERE WHAT IT READS IS OF BULK AT MOST 1048576: true; the input reads as it did. -/
def fnExactDaysBetweenUptoRow : OpenClaim := { program := "ytagbfaacklilbaa", sum := "ea341101ef3a98e2ef6c88605123483e78e6eed534c685f94fe73ecc07ec98af", func := "loop.example/g00906/laws.FnExactDaysBetween", spec := "fnExactDaysBetween", unfollowed := true, recurses := true, apart := false, narrowed := true }
def FnExactDaysBetweenUptoSaid : Prop := fnExactDaysBetweenUptoRow.holds Try.pinned (OpenSpec.upto fnExactDaysBetweenSpec)

/-- 'laws.FnExactSameCycle', WHERE WHAT IT READS IS OF BULK AT MOST 1048576: true; the input reads as it did. -/
def fnExactSameCycleUptoRow : OpenClaim := { program := "ytagbfaacklilbaa", sum := "ea341101ef3a98e2ef6c88605123483e78e6eed534c685f94fe73ecc07ec98af", func := "loop.example/g00906/laws.FnExactSameCycle", spec := "fnExactSameCycle", apart := false, narrowed := true }
def FnExactSameCycleUptoSaid : Prop := fnExactSameCycleUptoRow.holds Try.pinned (OpenSpec.upto fnExactSameCycleSpec)

/-- 'laws.FnExactNextCall', WHERE WHAT IT READS IS OF BULK AT MOST 1048576: true; the input reads as it did. -/
def fnExactNextCallUptoRow : OpenClaim := { program := "ytagbfaacklilbaa", sum := "ea341101ef3a98e2ef6c88605123483e78e6eed534c685f94fe73ecc07ec98af", func := "loop.example/g00906/laws.FnExactNextCall", spec := "fnExactNextCall", unfollowed := true, recurses := true, apart := false, narrowed := true }
def FnExactNextCallUptoSaid : Prop := fnExactNextCallUptoRow.holds Try.pinned (OpenSpec.upto fnExactNextCallSpec)

/-- 'laws.FnExactBestLoading', WHERE WHAT IT READS IS OF BULK AT MOST 1048576: true; the input reads as it did. -/
def fnExactBestLoadingUptoRow : OpenClaim := { program := "ytagbfaacklilbaa", sum := "ea341101ef3a98e2ef6c88605123483e78e6eed534c685f94fe73ecc07ec98af", func := "loop.example/g00906/laws.FnExactBestLoading", spec := "fnExactBestLoading", apart := false, narrowed := true }
def FnExactBestLoadingUptoSaid : Prop := fnExactBestLoadingUptoRow.holds Try.pinned (OpenSpec.upto fnExactBestLoadingSpec)

/-- 'laws.FnExactTurnRotation', WHERE WHAT IT READS IS OF BULK AT MOST 1048576: true; the input reads as it did. -/
def fnExactTurnRotationUptoRow : OpenClaim := { program := "ytagbfaacklilbaa", sum := "ea341101ef3a98e2ef6c88605123483e78e6eed534c685f94fe73ecc07ec98af", func := "loop.example/g00906/laws.FnExactTurnRotation", spec := "fnExactTurnRotation", unfollowed := true, recurses := true, apart := false, narrowed := true }
def FnExactTurnRotationUptoSaid : Prop := fnExactTurnRotationUptoRow.holds Try.pinned (OpenSpec.upto fnExactTurnRotationSpec)

/-- 'laws.FnExactPortsAhead', WHERE WHAT IT READS IS OF BULK AT MOST 1048576: true; the input reads as it did. -/
def fnExactPortsAheadUptoRow : OpenClaim := { program := "ytagbfaacklilbaa", sum := "ea341101ef3a98e2ef6c88605123483e78e6eed534c685f94fe73ecc07ec98af", func := "loop.example/g00906/laws.FnExactPortsAhead", spec := "fnExactPortsAhead", unfollowed := true, recurses := true, apart := false, narrowed := true }
def FnExactPortsAheadUptoSaid : Prop := fnExactPortsAheadUptoRow.holds Try.pinned (OpenSpec.upto fnExactPortsAheadSpec)

/-- 'laws.FnExactRelocationBound', WHERE WHAT IT READS IS OF BULK AT MOST 1048576: true; the input reads as it did. -/
def fnExactRelocationBoundUptoRow : OpenClaim := { program := "ytagbfaacklilbaa", sum := "ea341101ef3a98e2ef6c88605123483e78e6eed534c685f94fe73ecc07ec98af", func := "loop.example/g00906/laws.FnExactRelocationBound", spec := "fnExactRelocationBound", unfollowed := true, recurses := true, apart := false, narrowed := true }
def FnExactRelocationBoundUptoSaid : Prop := fnExactRelocationBoundUptoRow.holds Try.pinned (OpenSpec.upto fnExactRelocationBoundSpec)

/-- 'laws.FnExactIsPlan', WHERE WHAT IT READS IS OF BULK AT MOST 1048576: true; the input reads as it did. -/
def fnExactIsPlanUptoRow : OpenClaim := { program := "ytagbfaacklilbaa", sum := "ea341101ef3a98e2ef6c88605123483e78e6eed534c685f94fe73ecc07ec98af", func := "loop.example/g00906/laws.FnExactIsPlan", spec := "fnExactIsPlan", apart := false, narrowed := true }
def FnExactIsPlanUptoSaid : Prop := fnExactIsPlanUptoRow.holds Try.pinned (OpenSpec.upto fnExactIsPlanSpec)

/-- 'laws.FnCalls', WHERE WHAT IT READS IS OF BULK AT MOST 1048576: true; the input reads as it did. -/
def fnCallsUptoRow : OpenClaim := { program := "ytagbfaacklilbaa", sum := "ea341101ef3a98e2ef6c88605123483e78e6eed534c685f94fe73ecc07ec98af", func := "loop.example/g00906/laws.FnCalls", spec := "fnCalls", unfollowed := true, recurses := true, apart := false, narrowed := true }
def FnCallsUptoSaid : Prop := fnCallsUptoRow.holds Try.pinned (OpenSpec.upto fnCallsSpec)

end Rows
end Go.Proofs.Ytagbfaacklilbaa
