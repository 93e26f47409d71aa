/-
  No cell of these rows narrows 'for every input' (looked for: loops, veiled, ifaces, maps, wideKeys, modest, calm, conditions, laid).
  DERIVED. THE GIVEN ROWS OF THIS SEAT. 12 by the template 'for every input the law returns true; each argument reads behind the call as it read before'; 0 by the template 'total and deterministic' (their statements: YthijmjdjnihggaaTotals.lean).
  GIVEN WITH THE SEED: the statements are not yours to turn. If you find one false, say at which input.
  Laid BY PROGRAM, IN A SANDBOX (cutbox-rows.mjs): the forced cells as the released guide's own fill.sh prints them over the translation 8cb4aaf21c7cbafd… (all of the seat's roots in one cut). By AI agents, Wed Nov 11 2026. No macro, syntax, notation, axiom, sorry.
-/
import Derived.Test.YthijmjdjnihggaaChecked
import GoSem.Claim
import GoSem.ClaimJoined
import GoSem.ClaimMapViews
import Derived.JoinedTies
import Derived.KernelRfl
namespace Go.Proofs.Ythijmjdjnihggaa
/- THE CELL 'sum', in the pinned program and in every row, IS THE sha256 OF THE DUMP (.gsa) THAT YthijmjdjnihggaaProg.lean LOADS. Nothing in Lean hashes anything: it is a label: what it is worth is what the hold of that sum in a sandbox is worth. -/
noncomputable def Try.pinned : Pinned := { name := "ythijmjdjnihggaa", sum := "8cb4aaf21c7cbafd8100f1bc26f417cb1e2b98da2a477e58630c67c1089fc6c6", checked := Try.checked }
namespace Rows
def none {H : Type} : Left H := { results := [], args := [] }

/-- 'laws.FnExactIsValidContainers': WHATEVER THE INPUT: true; the input reads as it did. -/
def fnExactIsValidContainersSpec : ChangeSpec := { name := "fnExactIsValidContainers", fn := fun _ => fun
  | [d] => { results := [.lit (.bool true)], args := [d] }
  | _ => none }
def fnExactIsValidContainersRow : OpenClaim := { program := "ythijmjdjnihggaa", sum := "8cb4aaf21c7cbafd8100f1bc26f417cb1e2b98da2a477e58630c67c1089fc6c6", func := "loop.example/g00906/laws.FnExactIsValidContainers", spec := "fnExactIsValidContainers", unfollowed := true, recurses := true, apart := false }
def FnExactIsValidContainersSaid : Prop := fnExactIsValidContainersRow.holds Try.pinned (OpenSpec.ofChange fnExactIsValidContainersSpec)

/-- ITS FALSE NEIGHBOUR: 'it returns false'. Refute it at one input. -/
def fnExactIsValidContainersWrong : ChangeSpec := { name := "fnExactIsValidContainers", fn := fun _ => fun
  | [d] => { results := [.lit (.bool false)], args := [d] }
  | _ => none }
def FnExactIsValidContainersWrongFalsely : Prop := fnExactIsValidContainersRow.holds Try.pinned (OpenSpec.ofChange fnExactIsValidContainersWrong)

/-- 'laws.FnExactFindContainer': WHATEVER THE INPUT: true; the input reads as it did. -/
def fnExactFindContainerSpec : ChangeSpec := { name := "fnExactFindContainer", fn := fun _ => fun
  | [d1, d2] => { results := [.lit (.bool true)], args := [d1, d2] }
  | _ => none }
def fnExactFindContainerRow : OpenClaim := { program := "ythijmjdjnihggaa", sum := "8cb4aaf21c7cbafd8100f1bc26f417cb1e2b98da2a477e58630c67c1089fc6c6", func := "loop.example/g00906/laws.FnExactFindContainer", spec := "fnExactFindContainer", unfollowed := true, recurses := true, apart := false }
def FnExactFindContainerSaid : Prop := fnExactFindContainerRow.holds Try.pinned (OpenSpec.ofChange fnExactFindContainerSpec)

/-- ITS FALSE NEIGHBOUR: 'it returns false'. Refute it at one input. -/
def fnExactFindContainerWrong : ChangeSpec := { name := "fnExactFindContainer", fn := fun _ => fun
  | [d1, d2] => { results := [.lit (.bool false)], args := [d1, d2] }
  | _ => none }
def FnExactFindContainerWrongFalsely : Prop := fnExactFindContainerRow.holds Try.pinned (OpenSpec.ofChange fnExactFindContainerWrong)

/-- 'laws.FnExactCountUnits': WHATEVER THE INPUT: true; the input reads as it did. -/
def fnExactCountUnitsSpec : ChangeSpec := { name := "fnExactCountUnits", fn := fun _ => fun
  | [d] => { results := [.lit (.bool true)], args := [d] }
  | _ => none }
def fnExactCountUnitsRow : OpenClaim := { program := "ythijmjdjnihggaa", sum := "8cb4aaf21c7cbafd8100f1bc26f417cb1e2b98da2a477e58630c67c1089fc6c6", func := "loop.example/g00906/laws.FnExactCountUnits", spec := "fnExactCountUnits", unfollowed := true, recurses := true, apart := false }
def FnExactCountUnitsSaid : Prop := fnExactCountUnitsRow.holds Try.pinned (OpenSpec.ofChange fnExactCountUnitsSpec)

/-- ITS FALSE NEIGHBOUR: 'it returns false'. Refute it at one input. -/
def fnExactCountUnitsWrong : ChangeSpec := { name := "fnExactCountUnits", fn := fun _ => fun
  | [d] => { results := [.lit (.bool false)], args := [d] }
  | _ => none }
def FnExactCountUnitsWrongFalsely : Prop := fnExactCountUnitsRow.holds Try.pinned (OpenSpec.ofChange fnExactCountUnitsWrong)

/-- 'laws.FnExactTotalWeight': WHATEVER THE INPUT: true; the input reads as it did. -/
def fnExactTotalWeightSpec : ChangeSpec := { name := "fnExactTotalWeight", fn := fun _ => fun
  | [d] => { results := [.lit (.bool true)], args := [d] }
  | _ => none }
def fnExactTotalWeightRow : OpenClaim := { program := "ythijmjdjnihggaa", sum := "8cb4aaf21c7cbafd8100f1bc26f417cb1e2b98da2a477e58630c67c1089fc6c6", func := "loop.example/g00906/laws.FnExactTotalWeight", spec := "fnExactTotalWeight", unfollowed := true, recurses := true, apart := false }
def FnExactTotalWeightSaid : Prop := fnExactTotalWeightRow.holds Try.pinned (OpenSpec.ofChange fnExactTotalWeightSpec)

/-- ITS FALSE NEIGHBOUR: 'it returns false'. Refute it at one input. -/
def fnExactTotalWeightWrong : ChangeSpec := { name := "fnExactTotalWeight", fn := fun _ => fun
  | [d] => { results := [.lit (.bool false)], args := [d] }
  | _ => none }
def FnExactTotalWeightWrongFalsely : Prop := fnExactTotalWeightRow.holds Try.pinned (OpenSpec.ofChange fnExactTotalWeightWrong)

/-- 'laws.FnExactContainersFor': WHATEVER THE INPUT: true; the input reads as it did. -/
def fnExactContainersForSpec : ChangeSpec := { name := "fnExactContainersFor", fn := fun _ => fun
  | [d1, d2] => { results := [.lit (.bool true)], args := [d1, d2] }
  | _ => none }
def fnExactContainersForRow : OpenClaim := { program := "ythijmjdjnihggaa", sum := "8cb4aaf21c7cbafd8100f1bc26f417cb1e2b98da2a477e58630c67c1089fc6c6", func := "loop.example/g00906/laws.FnExactContainersFor", spec := "fnExactContainersFor", unfollowed := true, recurses := true, apart := false }
def FnExactContainersForSaid : Prop := fnExactContainersForRow.holds Try.pinned (OpenSpec.ofChange fnExactContainersForSpec)

/-- ITS FALSE NEIGHBOUR: 'it returns false'. Refute it at one input. -/
def fnExactContainersForWrong : ChangeSpec := { name := "fnExactContainersFor", fn := fun _ => fun
  | [d1, d2] => { results := [.lit (.bool false)], args := [d1, d2] }
  | _ => none }
def FnExactContainersForWrongFalsely : Prop := fnExactContainersForRow.holds Try.pinned (OpenSpec.ofChange fnExactContainersForWrong)

/-- 'laws.FnExactSplitManifest': WHATEVER THE INPUT: true; the input reads as it did. -/
def fnExactSplitManifestSpec : ChangeSpec := { name := "fnExactSplitManifest", fn := fun _ => fun
  | [d1, d2] => { results := [.lit (.bool true)], args := [d1, d2] }
  | _ => none }
def fnExactSplitManifestRow : OpenClaim := { program := "ythijmjdjnihggaa", sum := "8cb4aaf21c7cbafd8100f1bc26f417cb1e2b98da2a477e58630c67c1089fc6c6", func := "loop.example/g00906/laws.FnExactSplitManifest", spec := "fnExactSplitManifest", unfollowed := true, recurses := true, apart := false }
def FnExactSplitManifestSaid : Prop := fnExactSplitManifestRow.holds Try.pinned (OpenSpec.ofChange fnExactSplitManifestSpec)

/-- ITS FALSE NEIGHBOUR: 'it returns false'. Refute it at one input. -/
def fnExactSplitManifestWrong : ChangeSpec := { name := "fnExactSplitManifest", fn := fun _ => fun
  | [d1, d2] => { results := [.lit (.bool false)], args := [d1, d2] }
  | _ => none }
def FnExactSplitManifestWrongFalsely : Prop := fnExactSplitManifestRow.holds Try.pinned (OpenSpec.ofChange fnExactSplitManifestWrong)

/-- 'laws.FnExactMergeManifests': WHATEVER THE INPUT: true; the input reads as it did. -/
def fnExactMergeManifestsSpec : ChangeSpec := { name := "fnExactMergeManifests", fn := fun _ => fun
  | [d1, d2] => { results := [.lit (.bool true)], args := [d1, d2] }
  | _ => none }
def fnExactMergeManifestsRow : OpenClaim := { program := "ythijmjdjnihggaa", sum := "8cb4aaf21c7cbafd8100f1bc26f417cb1e2b98da2a477e58630c67c1089fc6c6", func := "loop.example/g00906/laws.FnExactMergeManifests", spec := "fnExactMergeManifests", unfollowed := true, recurses := true, apart := false }
def FnExactMergeManifestsSaid : Prop := fnExactMergeManifestsRow.holds Try.pinned (OpenSpec.ofChange fnExactMergeManifestsSpec)

/-- ITS FALSE NEIGHBOUR: 'it returns false'. Refute it at one input. -/
def fnExactMergeManifestsWrong : ChangeSpec := { name := "fnExactMergeManifests", fn := fun _ => fun
  | [d1, d2] => { results := [.lit (.bool false)], args := [d1, d2] }
  | _ => none }
def FnExactMergeManifestsWrongFalsely : Prop := fnExactMergeManifestsRow.holds Try.pinned (OpenSpec.ofChange fnExactMergeManifestsWrong)

/-- 'laws.FnExactPortCounts': WHATEVER THE INPUT: true; the input reads as it did. -/
def fnExactPortCountsSpec : ChangeSpec := { name := "fnExactPortCounts", fn := fun _ => fun
  | [d] => { results := [.lit (.bool true)], args := [d] }
  | _ => none }
def fnExactPortCountsRow : OpenClaim := { program := "ythijmjdjnihggaa", sum := "8cb4aaf21c7cbafd8100f1bc26f417cb1e2b98da2a477e58630c67c1089fc6c6", func := "loop.example/g00906/laws.FnExactPortCounts", spec := "fnExactPortCounts", unfollowed := true, recurses := true, apart := false }
def FnExactPortCountsSaid : Prop := fnExactPortCountsRow.holds Try.pinned (OpenSpec.ofChange fnExactPortCountsSpec)

/-- ITS FALSE NEIGHBOUR: 'it returns false'. Refute it at one input. -/
def fnExactPortCountsWrong : ChangeSpec := { name := "fnExactPortCounts", fn := fun _ => fun
  | [d] => { results := [.lit (.bool false)], args := [d] }
  | _ => none }
def FnExactPortCountsWrongFalsely : Prop := fnExactPortCountsRow.holds Try.pinned (OpenSpec.ofChange fnExactPortCountsWrong)

/-- 'laws.FnExactManifestChanges': WHATEVER THE INPUT: true; the input reads as it did. -/
def fnExactManifestChangesSpec : ChangeSpec := { name := "fnExactManifestChanges", fn := fun _ => fun
  | [d1, d2] => { results := [.lit (.bool true)], args := [d1, d2] }
  | _ => none }
def fnExactManifestChangesRow : OpenClaim := { program := "ythijmjdjnihggaa", sum := "8cb4aaf21c7cbafd8100f1bc26f417cb1e2b98da2a477e58630c67c1089fc6c6", func := "loop.example/g00906/laws.FnExactManifestChanges", spec := "fnExactManifestChanges", unfollowed := true, recurses := true, apart := false }
def FnExactManifestChangesSaid : Prop := fnExactManifestChangesRow.holds Try.pinned (OpenSpec.ofChange fnExactManifestChangesSpec)

/-- ITS FALSE NEIGHBOUR: 'it returns false'. Refute it at one input. -/
def fnExactManifestChangesWrong : ChangeSpec := { name := "fnExactManifestChanges", fn := fun _ => fun
  | [d1, d2] => { results := [.lit (.bool false)], args := [d1, d2] }
  | _ => none }
def FnExactManifestChangesWrongFalsely : Prop := fnExactManifestChangesRow.holds Try.pinned (OpenSpec.ofChange fnExactManifestChangesWrong)

/-- 'laws.FnExactHeaviestFirst': WHATEVER THE INPUT: true; the input reads as it did. -/
def fnExactHeaviestFirstSpec : ChangeSpec := { name := "fnExactHeaviestFirst", fn := fun _ => fun
  | [d] => { results := [.lit (.bool true)], args := [d] }
  | _ => none }
def fnExactHeaviestFirstRow : OpenClaim := { program := "ythijmjdjnihggaa", sum := "8cb4aaf21c7cbafd8100f1bc26f417cb1e2b98da2a477e58630c67c1089fc6c6", func := "loop.example/g00906/laws.FnExactHeaviestFirst", spec := "fnExactHeaviestFirst", unfollowed := true, recurses := true, apart := false }
def FnExactHeaviestFirstSaid : Prop := fnExactHeaviestFirstRow.holds Try.pinned (OpenSpec.ofChange fnExactHeaviestFirstSpec)

/-- ITS FALSE NEIGHBOUR: 'it returns false'. Refute it at one input. -/
def fnExactHeaviestFirstWrong : ChangeSpec := { name := "fnExactHeaviestFirst", fn := fun _ => fun
  | [d] => { results := [.lit (.bool false)], args := [d] }
  | _ => none }
def FnExactHeaviestFirstWrongFalsely : Prop := fnExactHeaviestFirstRow.holds Try.pinned (OpenSpec.ofChange fnExactHeaviestFirstWrong)

/-- 'laws.FnContainers': WHATEVER THE INPUT: true; the input reads as it did. -/
def fnContainersSpec : ChangeSpec := { name := "fnContainers", fn := fun _ => fun
  | [d] => { results := [.lit (.bool true)], args := [d] }
  | _ => none }
def fnContainersRow : OpenClaim := { program := "ythijmjdjnihggaa", sum := "8cb4aaf21c7cbafd8100f1bc26f417cb1e2b98da2a477e58630c67c1089fc6c6", func := "loop.example/g00906/laws.FnContainers", spec := "fnContainers", unfollowed := true, recurses := true, apart := false }
def FnContainersSaid : Prop := fnContainersRow.holds Try.pinned (OpenSpec.ofChange fnContainersSpec)

/-- ITS FALSE NEIGHBOUR: 'it returns false'. Refute it at one input. -/
def fnContainersWrong : ChangeSpec := { name := "fnContainers", fn := fun _ => fun
  | [d] => { results := [.lit (.bool false)], args := [d] }
  | _ => none }
def FnContainersWrongFalsely : Prop := fnContainersRow.holds Try.pinned (OpenSpec.ofChange fnContainersWrong)

/-- 'laws.FnManifestChanges': WHATEVER THE INPUT: true; the input reads as it did. -/
def fnManifestChangesSpec : ChangeSpec := { name := "fnManifestChanges", fn := fun _ => fun
  | [d] => { results := [.lit (.bool true)], args := [d] }
  | _ => none }
def fnManifestChangesRow : OpenClaim := { program := "ythijmjdjnihggaa", sum := "8cb4aaf21c7cbafd8100f1bc26f417cb1e2b98da2a477e58630c67c1089fc6c6", func := "loop.example/g00906/laws.FnManifestChanges", spec := "fnManifestChanges", unfollowed := true, recurses := true, apart := false }
def FnManifestChangesSaid : Prop := fnManifestChangesRow.holds Try.pinned (OpenSpec.ofChange fnManifestChangesSpec)

/-- ITS FALSE NEIGHBOUR: 'it returns false'. Refute it at one input. -/
def fnManifestChangesWrong : ChangeSpec := { name := "fnManifestChanges", fn := fun _ => fun
  | [d] => { results := [.lit (.bool false)], args := [d] }
  | _ => none }
def FnManifestChangesWrongFalsely : Prop := fnManifestChangesRow.holds Try.pinned (OpenSpec.ofChange fnManifestChangesWrong)

/- THE SECOND FORM. 'bulk': how many values and letters a reading holds, each counted each time it is reached (what is shared counts as often as it is met; a slice's spare places count too). A statement '..UptoSaid' is the law's where the arguments, and the package variables that the reading takes, are together of bulk at most 1048576: NARROWER than '..Said'. Prove '..Said' where nothing that the law and all that it calls make is longer than what came in: it says more and counts as full. Else prove '..UptoSaid'. A law counts once. -/
mutual
def uptoBulk {H : Type} : DataW H → Nat
  | .lit (.string bytes) => bytes.length + 1
  | .lit _ => 1
  | .nil => 1
  | .ptr d => uptoBulk d + 1
  | .slice elems spare => uptoBulkAll elems + uptoBulkAll spare + 1
  | .agg parts => uptoBulkAll parts + 1
  | .iface _ d => uptoBulk d + 1
  | .map entries => uptoBulkEntries entries + 1
  | .held _ => 1
def uptoBulkAll {H : Type} : List (DataW H) → Nat
  | [] => 0
  | d :: r => uptoBulk d + uptoBulkAll r
def uptoBulkEntries {H : Type} : List (Lit × DataW H) → Nat
  | [] => 0
  | x :: r => uptoBulkEntry x + uptoBulkEntries r
def uptoBulkEntry {H : Type} : Lit × DataW H → Nat
  | (.string bytes, d) => bytes.length + uptoBulk d + 1
  | (_, d) => uptoBulk d + 1
 end
def uptoSmall : (H : Type) → List (DataW H) → Bool := fun _ ds => decide (uptoBulkAll ds ≤ 1048576)
def OpenSpec.upto (s : _root_.Go.ChangeSpec) : _root_.Go.OpenSpec := { _root_.Go.OpenSpec.ofChange s with cond := some uptoSmall }

/-- 'laws.FnExactIsValidContainers', WHERE WHAT IT READS IS OF BULK AT MOST 1048576: true; the input reads as it did. -/
def fnExactIsValidContainersUptoRow : OpenClaim := { program := "ythijmjdjnihggaa", sum := "8cb4aaf21c7cbafd8100f1bc26f417cb1e2b98da2a477e58630c67c1089fc6c6", func := "loop.example/g00906/laws.FnExactIsValidContainers", spec := "fnExactIsValidContainers", unfollowed := true, recurses := true, apart := false, narrowed := true }
def FnExactIsValidContainersUptoSaid : Prop := fnExactIsValidContainersUptoRow.holds Try.pinned (OpenSpec.upto fnExactIsValidContainersSpec)

/-- 'laws.FnExactFindContainer', WHERE WHAT IT READS IS OF BULK AT MOST 1048576: true; the input reads as it did. -/
def fnExactFindContainerUptoRow : OpenClaim := { program := "ythijmjdjnihggaa", sum := "8cb4aaf21c7cbafd8100f1bc26f417cb1e2b98da2a477e58630c67c1089fc6c6", func := "loop.example/g00906/laws.FnExactFindContainer", spec := "fnExactFindContainer", unfollowed := true, recurses := true, apart := false, narrowed := true }
def FnExactFindContainerUptoSaid : Prop := fnExactFindContainerUptoRow.holds Try.pinned (OpenSpec.upto fnExactFindContainerSpec)

/-- 'laws.FnExactCountUnits', WHERE WHAT IT READS IS OF BULK AT MOST 1048576: true; the input reads as it did. -/
def fnExactCountUnitsUptoRow : OpenClaim := { program := "ythijmjdjnihggaa", sum := "8cb4aaf21c7cbafd8100f1bc26f417cb1e2b98da2a477e58630c67c1089fc6c6", func := "loop.example/g00906/laws.FnExactCountUnits", spec := "fnExactCountUnits", unfollowed := true, recurses := true, apart := false, narrowed := true }
def FnExactCountUnitsUptoSaid : Prop := fnExactCountUnitsUptoRow.holds Try.pinned (OpenSpec.upto fnExactCountUnitsSpec)

/-- 'laws.FnExactTotalWeight', WHERE WHAT IT READS IS OF BULK AT MOST 1048576: true; the input reads as it did. -/
def fnExactTotalWeightUptoRow : OpenClaim := { program := "ythijmjdjnihggaa", sum := "8cb4aaf21c7cbafd8100f1bc26f417cb1e2b98da2a477e58630c67c1089fc6c6", func := "loop.example/g00906/laws.FnExactTotalWeight", spec := "fnExactTotalWeight", unfollowed := true, recurses := true, apart := false, narrowed := true }
def FnExactTotalWeightUptoSaid : Prop := fnExactTotalWeightUptoRow.holds Try.pinned (OpenSpec.upto fnExactTotalWeightSpec)

/-- 'laws.FnExactContainersFor', WHERE WHAT IT READS IS OF BULK AT MOST 1048576: true; the input reads as it did. -/
def fnExactContainersForUptoRow : OpenClaim := { program := "ythijmjdjnihggaa", sum := "8cb4aaf21c7cbafd8100f1bc26f417cb1e2b98da2a477e58630c67c1089fc6c6", func := "loop.example/g00906/laws.FnExactContainersFor", spec := "fnExactContainersFor", unfollowed := true, recurses := true, apart := false, narrowed := true }
def FnExactContainersForUptoSaid : Prop := fnExactContainersForUptoRow.holds Try.pinned (OpenSpec.upto fnExactContainersForSpec)

/-- 'laws.FnExactSplitManifest', WHERE WHAT IT READS IS OF BULK AT MOST 1048576: true; the input reads as it did. -/
def fnExactSplitManifestUptoRow : OpenClaim := { program := "ythijmjdjnihggaa", sum := "8cb4aaf21c7cbafd8100f1bc26f417cb1e2b98da2a477e58630c67c1089fc6c6", func := "loop.example/g00906/laws.FnExactSplitManifest", spec := "fnExactSplitManifest", unfollowed := true, recurses := true, apart := false, narrowed := true }
def FnExactSplitManifestUptoSaid : Prop := fnExactSplitManifestUptoRow.holds Try.pinned (OpenSpec.upto fnExactSplitManifestSpec)

/-- 'laws.FnExactMergeManifests', WHERE WHAT IT READS IS OF BULK AT MOST 1048576: true; the input reads as it did. -/
def fnExactMergeManifestsUptoRow : OpenClaim := { program := "ythijmjdjnihggaa", sum := "8cb4aaf21c7cbafd8100f1bc26f417cb1e2b98da2a477e58630c67c1089fc6c6", func := "loop.example/g00906/laws.FnExactMergeManifests", spec := "fnExactMergeManifests", unfollowed := true, recurses := true, apart := false, narrowed := true }
def FnExactMergeManifestsUptoSaid : Prop := fnExactMergeManifestsUptoRow.holds Try.pinned (OpenSpec.upto fnExactMergeManifestsSpec)

/-- 'laws.FnExactPortCounts', WHERE WHAT IT READS IS OF BULK AT MOST 1048576: true; the input reads as it did. -/
def fnExactPortCountsUptoRow : OpenClaim := { program := "ythijmjdjnihggaa", sum := "8cb4aaf21c7cbafd8100f1bc26f417cb1e2b98da2a477e58630c67c1089fc6c6", func := "loop.example/g00906/laws.FnExactPortCounts", spec := "fnExactPortCounts", unfollowed := true, recurses := true, apart := false, narrowed := true }
def FnExactPortCountsUptoSaid : Prop := fnExactPortCountsUptoRow.holds Try.pinned (OpenSpec.upto fnExactPortCountsSpec)

/-- 'laws.FnExactManifestChanges', WHERE WHAT IT READS IS OF BULK AT MOST 1048576: true; the input reads as it did. -/
def fnExactManifestChangesUptoRow : OpenClaim := { program := "ythijmjdjnihggaa", sum := "8cb4aaf21c7cbafd8100f1bc26f417cb1e2b98da2a477e58630c67c1089fc6c6", func := "loop.example/g00906/laws.FnExactManifestChanges", spec := "fnExactManifestChanges", unfollowed := true, recurses := true, apart := false, narrowed := true }
def FnExactManifestChangesUptoSaid : Prop := fnExactManifestChangesUptoRow.holds Try.pinned (OpenSpec.upto fnExactManifestChangesSpec)

/-- 'laws.FnExactHeaviestFirst', WHERE WHAT IT READS IS OF BULK AT MOST 1048576: true; the input reads as it did. -/
def fnExactHeaviestFirstUptoRow : OpenClaim := { program := "ythijmjdjnihggaa", sum := "8cb4aaf21c7cbafd8100f1bc26f417cb1e2b98da2a477e58630c67c1089fc6c6", func := "loop.example/g00906/laws.FnExactHeaviestFirst", spec := "fnExactHeaviestFirst", unfollowed := true, recurses := true, apart := false, narrowed := true }
def FnExactHeaviestFirstUptoSaid : Prop := fnExactHeaviestFirstUptoRow.holds Try.pinned (OpenSpec.upto fnExactHeaviestFirstSpec)

/-- 'laws.FnContainers', WHERE WHAT IT READS IS OF BULK AT MOST 1048576: true; the input reads as it did. -/
def fnContainersUptoRow : OpenClaim := { program := "ythijmjdjnihggaa", sum := "8cb4aaf21c7cbafd8100f1bc26f417cb1e2b98da2a477e58630c67c1089fc6c6", func := "loop.example/g00906/laws.FnContainers", spec := "fnContainers", unfollowed := true, recurses := true, apart := false, narrowed := true }
def FnContainersUptoSaid : Prop := fnContainersUptoRow.holds Try.pinned (OpenSpec.upto fnContainersSpec)

/-- 'laws.FnManifestChanges', WHERE WHAT IT READS IS OF BULK AT MOST 1048576: true; the input reads as it did. -/
def fnManifestChangesUptoRow : OpenClaim := { program := "ythijmjdjnihggaa", sum := "8cb4aaf21c7cbafd8100f1bc26f417cb1e2b98da2a477e58630c67c1089fc6c6", func := "loop.example/g00906/laws.FnManifestChanges", spec := "fnManifestChanges", unfollowed := true, recurses := true, apart := false, narrowed := true }
def FnManifestChangesUptoSaid : Prop := fnManifestChangesUptoRow.holds Try.pinned (OpenSpec.upto fnManifestChangesSpec)

end Rows
end Go.Proofs.Ythijmjdjnihggaa
