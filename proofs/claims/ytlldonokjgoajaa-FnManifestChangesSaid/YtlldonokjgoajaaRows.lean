/-
  No cell of these rows narrows 'for every input' (looked for: loops, veiled, ifaces, maps, wideKeys, modest, calm, conditions, laid).
  DERIVED. THE GIVEN ROWS OF THIS SEAT. 10 by the template 'for every input the law returns true; each argument reads behind the call as it read before'; 0 by the template 'total and deterministic' (their statements: YtlldonokjgoajaaTotals.lean).
  GIVEN WITH THE SEED: the statements are not yours to turn. If you find one false, say at which input.
  Laid BY PROGRAM, IN A SANDBOX (cutbox-rows.mjs): the forced cells as the released guide's own fill.sh prints them over the translation 1cbadcfeab368169… (all of the seat's roots in one cut). By AI agents, Wed Nov 11 2026. No macro, syntax, notation, axiom, sorry.
-/
import Derived.Test.YtlldonokjgoajaaChecked
import GoSem.Claim
import GoSem.ClaimJoined
import GoSem.ClaimMapViews
import Derived.JoinedTies
import Derived.KernelRfl
namespace Go.Proofs.Ytlldonokjgoajaa
/- THE CELL 'sum', in the pinned program and in every row, IS THE sha256 OF THE DUMP (.gsa) THAT YtlldonokjgoajaaProg.lean LOADS. Nothing in Lean hashes anything: it is a label: what it is worth is what the hold of that sum in a sandbox is worth. -/
noncomputable def Try.pinned : Pinned := { name := "ytlldonokjgoajaa", sum := "1cbadcfeab3681692c324523b2d0479a49f4104363d54e59457d30694c7658cb", checked := Try.checked }
namespace Rows
def none {H : Type} : Left H := { results := [], args := [] }

/-- 'laws.FnCalls': WHATEVER THE INPUT: true; the input reads as it did. -/
def fnCallsSpec : ChangeSpec := { name := "fnCalls", fn := fun _ => fun
  | [d] => { results := [.lit (.bool true)], args := [d] }
  | _ => none }
def fnCallsRow : OpenClaim := { program := "ytlldonokjgoajaa", sum := "1cbadcfeab3681692c324523b2d0479a49f4104363d54e59457d30694c7658cb", func := "loop.example/g00906/laws.FnCalls", spec := "fnCalls", unfollowed := true, recurses := true, apart := false }
def FnCallsSaid : Prop := fnCallsRow.holds Try.pinned (OpenSpec.ofChange fnCallsSpec)

/-- ITS FALSE NEIGHBOUR: 'it returns false'. Refute it at one input. -/
def fnCallsWrong : ChangeSpec := { name := "fnCalls", fn := fun _ => fun
  | [d] => { results := [.lit (.bool false)], args := [d] }
  | _ => none }
def FnCallsWrongFalsely : Prop := fnCallsRow.holds Try.pinned (OpenSpec.ofChange fnCallsWrong)

/-- 'laws.FnExactMoveTop': WHATEVER THE INPUT: true; the input reads as it did. -/
def fnExactMoveTopSpec : ChangeSpec := { name := "fnExactMoveTop", fn := fun _ => fun
  | [d1, d2, d3] => { results := [.lit (.bool true)], args := [d1, d2, d3] }
  | _ => none }
def fnExactMoveTopRow : OpenClaim := { program := "ytlldonokjgoajaa", sum := "1cbadcfeab3681692c324523b2d0479a49f4104363d54e59457d30694c7658cb", func := "loop.example/g00906/laws.FnExactMoveTop", spec := "fnExactMoveTop", unfollowed := true, recurses := true, apart := false }
def FnExactMoveTopSaid : Prop := fnExactMoveTopRow.holds Try.pinned (OpenSpec.ofChange fnExactMoveTopSpec)

/-- ITS FALSE NEIGHBOUR: 'it returns false'. Refute it at one input. -/
def fnExactMoveTopWrong : ChangeSpec := { name := "fnExactMoveTop", fn := fun _ => fun
  | [d1, d2, d3] => { results := [.lit (.bool false)], args := [d1, d2, d3] }
  | _ => none }
def FnExactMoveTopWrongFalsely : Prop := fnExactMoveTopRow.holds Try.pinned (OpenSpec.ofChange fnExactMoveTopWrong)

/-- 'laws.FnStacks': WHATEVER THE INPUT: true; the input reads as it did. -/
def fnStacksSpec : ChangeSpec := { name := "fnStacks", fn := fun _ => fun
  | [d] => { results := [.lit (.bool true)], args := [d] }
  | _ => none }
def fnStacksRow : OpenClaim := { program := "ytlldonokjgoajaa", sum := "1cbadcfeab3681692c324523b2d0479a49f4104363d54e59457d30694c7658cb", func := "loop.example/g00906/laws.FnStacks", spec := "fnStacks", unfollowed := true, recurses := true, apart := false }
def FnStacksSaid : Prop := fnStacksRow.holds Try.pinned (OpenSpec.ofChange fnStacksSpec)

/-- ITS FALSE NEIGHBOUR: 'it returns false'. Refute it at one input. -/
def fnStacksWrong : ChangeSpec := { name := "fnStacks", fn := fun _ => fun
  | [d] => { results := [.lit (.bool false)], args := [d] }
  | _ => none }
def FnStacksWrongFalsely : Prop := fnStacksRow.holds Try.pinned (OpenSpec.ofChange fnStacksWrong)

/-- 'laws.FnExactIsPlan': WHATEVER THE INPUT: true; the input reads as it did. -/
def fnExactIsPlanSpec : ChangeSpec := { name := "fnExactIsPlan", fn := fun _ => fun
  | [d1, d2, d3] => { results := [.lit (.bool true)], args := [d1, d2, d3] }
  | _ => none }
def fnExactIsPlanRow : OpenClaim := { program := "ytlldonokjgoajaa", sum := "1cbadcfeab3681692c324523b2d0479a49f4104363d54e59457d30694c7658cb", func := "loop.example/g00906/laws.FnExactIsPlan", spec := "fnExactIsPlan", apart := false }
def FnExactIsPlanSaid : Prop := fnExactIsPlanRow.holds Try.pinned (OpenSpec.ofChange fnExactIsPlanSpec)

/-- ITS FALSE NEIGHBOUR: 'it returns false'. Refute it at one input. -/
def fnExactIsPlanWrong : ChangeSpec := { name := "fnExactIsPlan", fn := fun _ => fun
  | [d1, d2, d3] => { results := [.lit (.bool false)], args := [d1, d2, d3] }
  | _ => none }
def FnExactIsPlanWrongFalsely : Prop := fnExactIsPlanRow.holds Try.pinned (OpenSpec.ofChange fnExactIsPlanWrong)

/-- 'laws.FnExactPortCounts': WHATEVER THE INPUT: true; the input reads as it did. -/
def fnExactPortCountsSpec : ChangeSpec := { name := "fnExactPortCounts", fn := fun _ => fun
  | [d] => { results := [.lit (.bool true)], args := [d] }
  | _ => none }
def fnExactPortCountsRow : OpenClaim := { program := "ytlldonokjgoajaa", sum := "1cbadcfeab3681692c324523b2d0479a49f4104363d54e59457d30694c7658cb", func := "loop.example/g00906/laws.FnExactPortCounts", spec := "fnExactPortCounts", unfollowed := true, recurses := true, apart := false }
def FnExactPortCountsSaid : Prop := fnExactPortCountsRow.holds Try.pinned (OpenSpec.ofChange fnExactPortCountsSpec)

/-- ITS FALSE NEIGHBOUR: 'it returns false'. Refute it at one input. -/
def fnExactPortCountsWrong : ChangeSpec := { name := "fnExactPortCounts", fn := fun _ => fun
  | [d] => { results := [.lit (.bool false)], args := [d] }
  | _ => none }
def FnExactPortCountsWrongFalsely : Prop := fnExactPortCountsRow.holds Try.pinned (OpenSpec.ofChange fnExactPortCountsWrong)

/-- 'laws.FnExactHeaviestFirst': WHATEVER THE INPUT: true; the input reads as it did. -/
def fnExactHeaviestFirstSpec : ChangeSpec := { name := "fnExactHeaviestFirst", fn := fun _ => fun
  | [d] => { results := [.lit (.bool true)], args := [d] }
  | _ => none }
def fnExactHeaviestFirstRow : OpenClaim := { program := "ytlldonokjgoajaa", sum := "1cbadcfeab3681692c324523b2d0479a49f4104363d54e59457d30694c7658cb", func := "loop.example/g00906/laws.FnExactHeaviestFirst", spec := "fnExactHeaviestFirst", unfollowed := true, recurses := true, apart := false }
def FnExactHeaviestFirstSaid : Prop := fnExactHeaviestFirstRow.holds Try.pinned (OpenSpec.ofChange fnExactHeaviestFirstSpec)

/-- ITS FALSE NEIGHBOUR: 'it returns false'. Refute it at one input. -/
def fnExactHeaviestFirstWrong : ChangeSpec := { name := "fnExactHeaviestFirst", fn := fun _ => fun
  | [d] => { results := [.lit (.bool false)], args := [d] }
  | _ => none }
def FnExactHeaviestFirstWrongFalsely : Prop := fnExactHeaviestFirstRow.holds Try.pinned (OpenSpec.ofChange fnExactHeaviestFirstWrong)

/-- 'laws.FnExactSameYard': WHATEVER THE INPUT: true; the input reads as it did. -/
def fnExactSameYardSpec : ChangeSpec := { name := "fnExactSameYard", fn := fun _ => fun
  | [d1, d2] => { results := [.lit (.bool true)], args := [d1, d2] }
  | _ => none }
def fnExactSameYardRow : OpenClaim := { program := "ytlldonokjgoajaa", sum := "1cbadcfeab3681692c324523b2d0479a49f4104363d54e59457d30694c7658cb", func := "loop.example/g00906/laws.FnExactSameYard", spec := "fnExactSameYard", unfollowed := true, recurses := true, apart := false }
def FnExactSameYardSaid : Prop := fnExactSameYardRow.holds Try.pinned (OpenSpec.ofChange fnExactSameYardSpec)

/-- ITS FALSE NEIGHBOUR: 'it returns false'. Refute it at one input. -/
def fnExactSameYardWrong : ChangeSpec := { name := "fnExactSameYard", fn := fun _ => fun
  | [d1, d2] => { results := [.lit (.bool false)], args := [d1, d2] }
  | _ => none }
def FnExactSameYardWrongFalsely : Prop := fnExactSameYardRow.holds Try.pinned (OpenSpec.ofChange fnExactSameYardWrong)

/-- 'laws.FnContainers': WHATEVER THE INPUT: true; the input reads as it did. -/
def fnContainersSpec : ChangeSpec := { name := "fnContainers", fn := fun _ => fun
  | [d] => { results := [.lit (.bool true)], args := [d] }
  | _ => none }
def fnContainersRow : OpenClaim := { program := "ytlldonokjgoajaa", sum := "1cbadcfeab3681692c324523b2d0479a49f4104363d54e59457d30694c7658cb", func := "loop.example/g00906/laws.FnContainers", spec := "fnContainers", unfollowed := true, recurses := true, apart := false }
def FnContainersSaid : Prop := fnContainersRow.holds Try.pinned (OpenSpec.ofChange fnContainersSpec)

/-- ITS FALSE NEIGHBOUR: 'it returns false'. Refute it at one input. -/
def fnContainersWrong : ChangeSpec := { name := "fnContainers", fn := fun _ => fun
  | [d] => { results := [.lit (.bool false)], args := [d] }
  | _ => none }
def FnContainersWrongFalsely : Prop := fnContainersRow.holds Try.pinned (OpenSpec.ofChange fnContainersWrong)

/-- 'laws.FnManifestChanges': WHATEVER THE INPUT: true; the input reads as it did. -/
def fnManifestChangesSpec : ChangeSpec := { name := "fnManifestChanges", fn := fun _ => fun
  | [d] => { results := [.lit (.bool true)], args := [d] }
  | _ => none }
def fnManifestChangesRow : OpenClaim := { program := "ytlldonokjgoajaa", sum := "1cbadcfeab3681692c324523b2d0479a49f4104363d54e59457d30694c7658cb", func := "loop.example/g00906/laws.FnManifestChanges", spec := "fnManifestChanges", unfollowed := true, recurses := true, apart := false }
def FnManifestChangesSaid : Prop := fnManifestChangesRow.holds Try.pinned (OpenSpec.ofChange fnManifestChangesSpec)

/-- ITS FALSE NEIGHBOUR: 'it returns false'. Refute it at one input. -/
def fnManifestChangesWrong : ChangeSpec := { name := "fnManifestChanges", fn := fun _ => fun
  | [d] => { results := [.lit (.bool false)], args := [d] }
  | _ => none }
def FnManifestChangesWrongFalsely : Prop := fnManifestChangesRow.holds Try.pinned (OpenSpec.ofChange fnManifestChangesWrong)

/-- 'laws.FnStackMoves': WHATEVER THE INPUT: true; the input reads as it did. -/
def fnStackMovesSpec : ChangeSpec := { name := "fnStackMoves", fn := fun _ => fun
  | [d] => { results := [.lit (.bool true)], args := [d] }
  | _ => none }
def fnStackMovesRow : OpenClaim := { program := "ytlldonokjgoajaa", sum := "1cbadcfeab3681692c324523b2d0479a49f4104363d54e59457d30694c7658cb", func := "loop.example/g00906/laws.FnStackMoves", spec := "fnStackMoves", unfollowed := true, recurses := true, apart := false }
def FnStackMovesSaid : Prop := fnStackMovesRow.holds Try.pinned (OpenSpec.ofChange fnStackMovesSpec)

/-- ITS FALSE NEIGHBOUR: 'it returns false'. Refute it at one input. -/
def fnStackMovesWrong : ChangeSpec := { name := "fnStackMoves", fn := fun _ => fun
  | [d] => { results := [.lit (.bool false)], args := [d] }
  | _ => none }
def FnStackMovesWrongFalsely : Prop := fnStackMovesRow.holds Try.pinned (OpenSpec.ofChange fnStackMovesWrong)

/- THE SECOND FORM. 'bulk': how many values and letters a reading holds, each counted each time it is reached (what is shared counts as often as it is met; a slice's spare places count too). A statement '..UptoSaid' is the law's where the arguments, and the package variables that the reading takes, are together of bulk at most 1048576: NARROWER than '..Said'. Prove '..Said' where nothing that the law and all that it calls make is longer than what came in: it says more and counts as full. Else prove '..UptoSaid'. A law counts once. -/
mutual
def uptoBulk {H : Type} : DataW H → Nat
  | .lit (.string bytes) => bytes.length + 1
  | .lit _ => 1
  | .nil => 1
  | .ptr d => uptoBulk d + 1
  | .slice elems spare => uptoBulkAll elems + uptoBulkAll spare + 1
  | .agg parts => uptoBulkAll parts + 1
  | .iface _ d => uptoBulk d + 1
  | .map entries => uptoBulkEntries entries + 1
  | .held _ => 1
def uptoBulkAll {H : Type} : List (DataW H) → Nat
  | [] => 0
  | d :: r => uptoBulk d + uptoBulkAll r
def uptoBulkEntries {H : Type} : List (Lit × DataW H) → Nat
  | [] => 0
  | x :: r => uptoBulkEntry x + uptoBulkEntries r
def uptoBulkEntry {H : Type} : Lit × DataW H → Nat
  | (.string bytes, d) => bytes.length + uptoBulk d + 1
  | (_, d) => uptoBulk d + 1
 end
def uptoSmall : (H : Type) → List (DataW H) → Bool := fun _ ds => decide (uptoBulkAll ds ≤ 1048576)
def OpenSpec.upto (s : _root_.Go.ChangeSpec) : _root_.Go.OpenSpec := { _root_.Go.OpenSpec.ofChange s with cond := some uptoSmall }

/-- 'laws.FnCalls', WHERE WHAT IT READS IS OF BULK AT MOST 1048576: true; the input reads as it did. -/
def fnCallsUptoRow : OpenClaim := { program := "ytlldonokjgoajaa", sum := "1cbadcfeab3681692c324523b2d0479a49f4104363d54e59457d30694c7658cb", func := "loop.example/g00906/laws.FnCalls", spec := "fnCalls", unfollowed := true, recurses := true, apart := false, narrowed := true }
def FnCallsUptoSaid : Prop := fnCallsUptoRow.holds Try.pinned (OpenSpec.upto fnCallsSpec)

/-- 'laws.FnExactMoveTop', WHERE WHAT IT READS IS OF BULK AT MOST 1048576: true; the input reads as it did. -/
def fnExactMoveTopUptoRow : OpenClaim := { program := "ytlldonokjgoajaa", sum := "1cbadcfeab3681692c324523b2d0479a49f4104363d54e59457d30694c7658cb", func := "loop.example/g00906/laws.FnExactMoveTop", spec := "fnExactMoveTop", unfollowed := true, recurses := true, apart := false, narrowed := true }
def FnExactMoveTopUptoSaid : Prop := fnExactMoveTopUptoRow.holds Try.pinned (OpenSpec.upto fnExactMoveTopSpec)

/-- 'laws.FnStacks', WHERE WHAT IT READS IS OF BULK AT MOST 1048576: true; the input reads as it did. -/
def fnStacksUptoRow : OpenClaim := { program := "ytlldonokjgoajaa", sum := "1cbadcfeab3681692c324523b2d0479a49f4104363d54e59457d30694c7658cb", func := "loop.example/g00906/laws.FnStacks", spec := "fnStacks", unfollowed := true, recurses := true, apart := false, narrowed := true }
def FnStacksUptoSaid : Prop := fnStacksUptoRow.holds Try.pinned (OpenSpec.upto fnStacksSpec)

/-- 'laws.FnExactIsPlan', WHERE WHAT IT READS IS OF BULK AT MOST 1048576: true; the input reads as it did. -/
def fnExactIsPlanUptoRow : OpenClaim := { program := "ytlldonokjgoajaa", sum := "1cbadcfeab3681692c324523b2d0479a49f4104363d54e59457d30694c7658cb", func := "loop.example/g00906/laws.FnExactIsPlan", spec := "fnExactIsPlan", apart := false, narrowed := true }
def FnExactIsPlanUptoSaid : Prop := fnExactIsPlanUptoRow.holds Try.pinned (OpenSpec.upto fnExactIsPlanSpec)

/-- 'laws.FnExactPortCounts', WHERE WHAT IT READS IS OF BULK AT MOST 1048576: true; the input reads as it did. -/
def fnExactPortCountsUptoRow : OpenClaim := { program := "ytlldonokjgoajaa", sum := "1cbadcfeab3681692c324523b2d0479a49f4104363d54e59457d30694c7658cb", func := "loop.example/g00906/laws.FnExactPortCounts", spec := "fnExactPortCounts", unfollowed := true, recurses := true, apart := false, narrowed := true }
def FnExactPortCountsUptoSaid : Prop := fnExactPortCountsUptoRow.holds Try.pinned (OpenSpec.upto fnExactPortCountsSpec)

/-- 'laws.FnExactHeaviestFirst', WHERE WHAT IT READS IS OF BULK AT MOST 1048576: true; the input reads as it did. -/
def fnExactHeaviestFirstUptoRow : OpenClaim := { program := "ytlldonokjgoajaa", sum := "1cbadcfeab3681692c324523b2d0479a49f4104363d54e59457d30694c7658cb", func := "loop.example/g00906/laws.FnExactHeaviestFirst", spec := "fnExactHeaviestFirst", unfollowed := true, recurses := true, apart := false, narrowed := true }
def FnExactHeaviestFirstUptoSaid : Prop := fnExactHeaviestFirstUptoRow.holds Try.pinned (OpenSpec.upto fnExactHeaviestFirstSpec)

/-- 'laws.FnExactSameYard', WHERE WHAT IT READS IS OF BULK AT MOST 1048576: true; the input reads as it did. -/
def fnExactSameYardUptoRow : OpenClaim := { program := "ytlldonokjgoajaa", sum := "1cbadcfeab3681692c324523b2d0479a49f4104363d54e59457d30694c7658cb", func := "loop.example/g00906/laws.FnExactSameYard", spec := "fnExactSameYard", unfollowed := true, recurses := true, apart := false, narrowed := true }
def FnExactSameYardUptoSaid : Prop := fnExactSameYardUptoRow.holds Try.pinned (OpenSpec.upto fnExactSameYardSpec)

/-- 'laws.FnContainers', WHERE WHAT IT READS IS OF BULK AT MOST 1048576: true; the input reads as it did. -/
def fnContainersUptoRow : OpenClaim := { program := "ytlldonokjgoajaa", sum := "1cbadcfeab3681692c324523b2d0479a49f4104363d54e59457d30694c7658cb", func := "loop.example/g00906/laws.FnContainers", spec := "fnContainers", unfollowed := true, recurses := true, apart := false, narrowed := true }
def FnContainersUptoSaid : Prop := fnContainersUptoRow.holds Try.pinned (OpenSpec.upto fnContainersSpec)

/-- 'laws.FnManifestChanges', WHERE WHAT IT READS IS OF BULK AT MOST 1048576: true; the input reads as it did. -/
def fnManifestChangesUptoRow : OpenClaim := { program := "ytlldonokjgoajaa", sum := "1cbadcfeab3681692c324523b2d0479a49f4104363d54e59457d30694c7658cb", func := "loop.example/g00906/laws.FnManifestChanges", spec := "fnManifestChanges", unfollowed := true, recurses := true, apart := false, narrowed := true }
def FnManifestChangesUptoSaid : Prop := fnManifestChangesUptoRow.holds Try.pinned (OpenSpec.upto fnManifestChangesSpec)

/-- 'laws.FnStackMoves', WHERE WHAT IT READS IS OF BULK AT MOST 1048576: true; the input reads as it did. -/
def fnStackMovesUptoRow : OpenClaim := { program := "ytlldonokjgoajaa", sum := "1cbadcfeab3681692c324523b2d0479a49f4104363d54e59457d30694c7658cb", func := "loop.example/g00906/laws.FnStackMoves", spec := "fnStackMoves", unfollowed := true, recurses := true, apart := false, narrowed := true }
def FnStackMovesUptoSaid : Prop := fnStackMovesUptoRow.holds Try.pinned (OpenSpec.upto fnStackMovesSpec)

end Rows
end Go.Proofs.Ytlldonokjgoajaa
