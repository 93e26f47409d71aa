/-
  No cell of these rows narrows 'for every input' (looked for: loops, veiled, ifaces, maps, wideKeys, modest, calm, conditions, laid).
  DERIVED. THE GIVEN ROWS OF THIS SEAT. 11 by the template 'for every input the law returns true; each argument reads behind the call as it read before'; 0 by the template 'total and deterministic' (their statements: YtalionklcgdhiaaTotals.lean).
  GIVEN WITH THE SEED: the statements are not yours to turn. If you find one false, say at which input.
  Laid BY PROGRAM, IN A SANDBOX (cutbox-rows.mjs): the forced cells as the released guide's own fill.sh prints them over the translation 2be003a658ce8933… (all of the seat's roots in one cut). By AI agents, Wed Nov 11 2026. No macro, syntax, notation, axiom, sorry.
-/
import Derived.Test.YtalionklcgdhiaaChecked
import GoSem.Claim
import GoSem.ClaimJoined
import GoSem.ClaimMapViews
import Derived.JoinedTies
import Derived.KernelRfl
namespace Go.Proofs.Ytalionklcgdhiaa
/- THE CELL 'sum', in the pinned program and in every row, IS THE sha256 OF THE DUMP (.gsa) THAT YtalionklcgdhiaaProg.lean LOADS. Nothing in Lean hashes anything: it is a label: what it is worth is what the hold of that sum in a sandbox is worth. -/
noncomputable def Try.pinned : Pinned := { name := "ytalionklcgdhiaa", sum := "2be003a658ce893310287ccbd20c8bcb6456d31966b379eeb7036ebe55209612", checked := Try.checked }
namespace Rows
def none {H : Type} : Left H := { results := [], args := [] }

/-- 'laws.FnExactConstants': WHATEVER THE INPUT: true; the input reads as it did. -/
def fnExactConstantsSpec : ChangeSpec := { name := "fnExactConstants", fn := fun _ => fun
  | [] => { results := [.lit (.bool true)], args := [] }
  | _ => none }
def fnExactConstantsRow : OpenClaim := { program := "ytalionklcgdhiaa", sum := "2be003a658ce893310287ccbd20c8bcb6456d31966b379eeb7036ebe55209612", func := "loop.example/g00906/laws.FnExactConstants", spec := "fnExactConstants", apart := false }
def FnExactConstantsSaid : Prop := fnExactConstantsRow.holds Try.pinned (OpenSpec.ofChange fnExactConstantsSpec)

/-- ITS FALSE NEIGHBOUR: 'it returns false'. Refute it at one input. -/
def fnExactConstantsWrong : ChangeSpec := { name := "fnExactConstants", fn := fun _ => fun
  | [] => { results := [.lit (.bool false)], args := [] }
  | _ => none }
def FnExactConstantsWrongFalsely : Prop := fnExactConstantsRow.holds Try.pinned (OpenSpec.ofChange fnExactConstantsWrong)

/-- 'laws.FnExactLessString': WHATEVER THE INPUT: true; the input reads as it did. -/
def fnExactLessStringSpec : ChangeSpec := { name := "fnExactLessString", fn := fun _ => fun
  | [d1, d2] => { results := [.lit (.bool true)], args := [d1, d2] }
  | _ => none }
def fnExactLessStringRow : OpenClaim := { program := "ytalionklcgdhiaa", sum := "2be003a658ce893310287ccbd20c8bcb6456d31966b379eeb7036ebe55209612", func := "loop.example/g00906/laws.FnExactLessString", spec := "fnExactLessString", apart := false }
def FnExactLessStringSaid : Prop := fnExactLessStringRow.holds Try.pinned (OpenSpec.ofChange fnExactLessStringSpec)

/-- ITS FALSE NEIGHBOUR: 'it returns false'. Refute it at one input. -/
def fnExactLessStringWrong : ChangeSpec := { name := "fnExactLessString", fn := fun _ => fun
  | [d1, d2] => { results := [.lit (.bool false)], args := [d1, d2] }
  | _ => none }
def FnExactLessStringWrongFalsely : Prop := fnExactLessStringRow.holds Try.pinned (OpenSpec.ofChange fnExactLessStringWrong)

/-- 'laws.FnExactChecksum': WHATEVER THE INPUT: true; the input reads as it did. -/
def fnExactChecksumSpec : ChangeSpec := { name := "fnExactChecksum", fn := fun _ => fun
  | [d] => { results := [.lit (.bool true)], args := [d] }
  | _ => none }
def fnExactChecksumRow : OpenClaim := { program := "ytalionklcgdhiaa", sum := "2be003a658ce893310287ccbd20c8bcb6456d31966b379eeb7036ebe55209612", func := "loop.example/g00906/laws.FnExactChecksum", spec := "fnExactChecksum", apart := false }
def FnExactChecksumSaid : Prop := fnExactChecksumRow.holds Try.pinned (OpenSpec.ofChange fnExactChecksumSpec)

/-- ITS FALSE NEIGHBOUR: 'it returns false'. Refute it at one input. -/
def fnExactChecksumWrong : ChangeSpec := { name := "fnExactChecksum", fn := fun _ => fun
  | [d] => { results := [.lit (.bool false)], args := [d] }
  | _ => none }
def FnExactChecksumWrongFalsely : Prop := fnExactChecksumRow.holds Try.pinned (OpenSpec.ofChange fnExactChecksumWrong)

/-- 'laws.FnExactIsValidId': WHATEVER THE INPUT: true; the input reads as it did. -/
def fnExactIsValidIdSpec : ChangeSpec := { name := "fnExactIsValidId", fn := fun _ => fun
  | [d] => { results := [.lit (.bool true)], args := [d] }
  | _ => none }
def fnExactIsValidIdRow : OpenClaim := { program := "ytalionklcgdhiaa", sum := "2be003a658ce893310287ccbd20c8bcb6456d31966b379eeb7036ebe55209612", func := "loop.example/g00906/laws.FnExactIsValidId", spec := "fnExactIsValidId", apart := false }
def FnExactIsValidIdSaid : Prop := fnExactIsValidIdRow.holds Try.pinned (OpenSpec.ofChange fnExactIsValidIdSpec)

/-- ITS FALSE NEIGHBOUR: 'it returns false'. Refute it at one input. -/
def fnExactIsValidIdWrong : ChangeSpec := { name := "fnExactIsValidId", fn := fun _ => fun
  | [d] => { results := [.lit (.bool false)], args := [d] }
  | _ => none }
def FnExactIsValidIdWrongFalsely : Prop := fnExactIsValidIdRow.holds Try.pinned (OpenSpec.ofChange fnExactIsValidIdWrong)

/-- 'laws.FnExactCheckLetter': WHATEVER THE INPUT: true; the input reads as it did. -/
def fnExactCheckLetterSpec : ChangeSpec := { name := "fnExactCheckLetter", fn := fun _ => fun
  | [d] => { results := [.lit (.bool true)], args := [d] }
  | _ => none }
def fnExactCheckLetterRow : OpenClaim := { program := "ytalionklcgdhiaa", sum := "2be003a658ce893310287ccbd20c8bcb6456d31966b379eeb7036ebe55209612", func := "loop.example/g00906/laws.FnExactCheckLetter", spec := "fnExactCheckLetter", apart := false }
def FnExactCheckLetterSaid : Prop := fnExactCheckLetterRow.holds Try.pinned (OpenSpec.ofChange fnExactCheckLetterSpec)

/-- ITS FALSE NEIGHBOUR: 'it returns false'. Refute it at one input. -/
def fnExactCheckLetterWrong : ChangeSpec := { name := "fnExactCheckLetter", fn := fun _ => fun
  | [d] => { results := [.lit (.bool false)], args := [d] }
  | _ => none }
def FnExactCheckLetterWrongFalsely : Prop := fnExactCheckLetterRow.holds Try.pinned (OpenSpec.ofChange fnExactCheckLetterWrong)

/-- 'laws.FnExactCountRelocations': WHATEVER THE INPUT: true; the input reads as it did. -/
def fnExactCountRelocationsSpec : ChangeSpec := { name := "fnExactCountRelocations", fn := fun _ => fun
  | [d] => { results := [.lit (.bool true)], args := [d] }
  | _ => none }
def fnExactCountRelocationsRow : OpenClaim := { program := "ytalionklcgdhiaa", sum := "2be003a658ce893310287ccbd20c8bcb6456d31966b379eeb7036ebe55209612", func := "loop.example/g00906/laws.FnExactCountRelocations", spec := "fnExactCountRelocations", apart := false }
def FnExactCountRelocationsSaid : Prop := fnExactCountRelocationsRow.holds Try.pinned (OpenSpec.ofChange fnExactCountRelocationsSpec)

/-- ITS FALSE NEIGHBOUR: 'it returns false'. Refute it at one input. -/
def fnExactCountRelocationsWrong : ChangeSpec := { name := "fnExactCountRelocations", fn := fun _ => fun
  | [d] => { results := [.lit (.bool false)], args := [d] }
  | _ => none }
def FnExactCountRelocationsWrongFalsely : Prop := fnExactCountRelocationsRow.holds Try.pinned (OpenSpec.ofChange fnExactCountRelocationsWrong)

/-- 'laws.FnExactIsValidContainer': WHATEVER THE INPUT: true; the input reads as it did. -/
def fnExactIsValidContainerSpec : ChangeSpec := { name := "fnExactIsValidContainer", fn := fun _ => fun
  | [d] => { results := [.lit (.bool true)], args := [d] }
  | _ => none }
def fnExactIsValidContainerRow : OpenClaim := { program := "ytalionklcgdhiaa", sum := "2be003a658ce893310287ccbd20c8bcb6456d31966b379eeb7036ebe55209612", func := "loop.example/g00906/laws.FnExactIsValidContainer", spec := "fnExactIsValidContainer", apart := false }
def FnExactIsValidContainerSaid : Prop := fnExactIsValidContainerRow.holds Try.pinned (OpenSpec.ofChange fnExactIsValidContainerSpec)

/-- ITS FALSE NEIGHBOUR: 'it returns false'. Refute it at one input. -/
def fnExactIsValidContainerWrong : ChangeSpec := { name := "fnExactIsValidContainer", fn := fun _ => fun
  | [d] => { results := [.lit (.bool false)], args := [d] }
  | _ => none }
def FnExactIsValidContainerWrongFalsely : Prop := fnExactIsValidContainerRow.holds Try.pinned (OpenSpec.ofChange fnExactIsValidContainerWrong)

/-- 'laws.FnExactIsValidRotation': WHATEVER THE INPUT: true; the input reads as it did. -/
def fnExactIsValidRotationSpec : ChangeSpec := { name := "fnExactIsValidRotation", fn := fun _ => fun
  | [d] => { results := [.lit (.bool true)], args := [d] }
  | _ => none }
def fnExactIsValidRotationRow : OpenClaim := { program := "ytalionklcgdhiaa", sum := "2be003a658ce893310287ccbd20c8bcb6456d31966b379eeb7036ebe55209612", func := "loop.example/g00906/laws.FnExactIsValidRotation", spec := "fnExactIsValidRotation", apart := false }
def FnExactIsValidRotationSaid : Prop := fnExactIsValidRotationRow.holds Try.pinned (OpenSpec.ofChange fnExactIsValidRotationSpec)

/-- ITS FALSE NEIGHBOUR: 'it returns false'. Refute it at one input. -/
def fnExactIsValidRotationWrong : ChangeSpec := { name := "fnExactIsValidRotation", fn := fun _ => fun
  | [d] => { results := [.lit (.bool false)], args := [d] }
  | _ => none }
def FnExactIsValidRotationWrongFalsely : Prop := fnExactIsValidRotationRow.holds Try.pinned (OpenSpec.ofChange fnExactIsValidRotationWrong)

/-- 'laws.FnExactCycleDays': WHATEVER THE INPUT: true; the input reads as it did. -/
def fnExactCycleDaysSpec : ChangeSpec := { name := "fnExactCycleDays", fn := fun _ => fun
  | [d] => { results := [.lit (.bool true)], args := [d] }
  | _ => none }
def fnExactCycleDaysRow : OpenClaim := { program := "ytalionklcgdhiaa", sum := "2be003a658ce893310287ccbd20c8bcb6456d31966b379eeb7036ebe55209612", func := "loop.example/g00906/laws.FnExactCycleDays", spec := "fnExactCycleDays", apart := false }
def FnExactCycleDaysSaid : Prop := fnExactCycleDaysRow.holds Try.pinned (OpenSpec.ofChange fnExactCycleDaysSpec)

/-- ITS FALSE NEIGHBOUR: 'it returns false'. Refute it at one input. -/
def fnExactCycleDaysWrong : ChangeSpec := { name := "fnExactCycleDays", fn := fun _ => fun
  | [d] => { results := [.lit (.bool false)], args := [d] }
  | _ => none }
def FnExactCycleDaysWrongFalsely : Prop := fnExactCycleDaysRow.holds Try.pinned (OpenSpec.ofChange fnExactCycleDaysWrong)

/-- 'laws.FnExactDaysBetween': WHATEVER THE INPUT: true; the input reads as it did. -/
def fnExactDaysBetweenSpec : ChangeSpec := { name := "fnExactDaysBetween", fn := fun _ => fun
  | [d1, d2, d3] => { results := [.lit (.bool true)], args := [d1, d2, d3] }
  | _ => none }
def fnExactDaysBetweenRow : OpenClaim := { program := "ytalionklcgdhiaa", sum := "2be003a658ce893310287ccbd20c8bcb6456d31966b379eeb7036ebe55209612", func := "loop.example/g00906/laws.FnExactDaysBetween", spec := "fnExactDaysBetween", unfollowed := true, recurses := true, apart := false }
def FnExactDaysBetweenSaid : Prop := fnExactDaysBetweenRow.holds Try.pinned (OpenSpec.ofChange fnExactDaysBetweenSpec)

/-- ITS FALSE NEIGHBOUR: 'it returns false'. Refute it at one input. -/
def fnExactDaysBetweenWrong : ChangeSpec := { name := "fnExactDaysBetween", fn := fun _ => fun
  | [d1, d2, d3] => { results := [.lit (.bool false)], args := [d1, d2, d3] }
  | _ => none }
def FnExactDaysBetweenWrongFalsely : Prop := fnExactDaysBetweenRow.holds Try.pinned (OpenSpec.ofChange fnExactDaysBetweenWrong)

/-- 'laws.FnExactIsValidYard': WHATEVER THE INPUT: true; the input reads as it did. -/
def fnExactIsValidYardSpec : ChangeSpec := { name := "fnExactIsValidYard", fn := fun _ => fun
  | [d] => { results := [.lit (.bool true)], args := [d] }
  | _ => none }
def fnExactIsValidYardRow : OpenClaim := { program := "ytalionklcgdhiaa", sum := "2be003a658ce893310287ccbd20c8bcb6456d31966b379eeb7036ebe55209612", func := "loop.example/g00906/laws.FnExactIsValidYard", spec := "fnExactIsValidYard", apart := false }
def FnExactIsValidYardSaid : Prop := fnExactIsValidYardRow.holds Try.pinned (OpenSpec.ofChange fnExactIsValidYardSpec)

/-- ITS FALSE NEIGHBOUR: 'it returns false'. Refute it at one input. -/
def fnExactIsValidYardWrong : ChangeSpec := { name := "fnExactIsValidYard", fn := fun _ => fun
  | [d] => { results := [.lit (.bool false)], args := [d] }
  | _ => none }
def FnExactIsValidYardWrongFalsely : Prop := fnExactIsValidYardRow.holds Try.pinned (OpenSpec.ofChange fnExactIsValidYardWrong)

/- THE SECOND FORM. 'bulk': how many values and letters a reading holds, each counted each time it is reached (what is shared counts as often as it is met; a slice's spare places count too). A statement '..UptoSaid' is the law's where the arguments, and the package variables that the reading takes, are together of bulk at most 1048576: NARROWER than '..Said'. Prove '..Said' where nothing that the law and all that it calls make is longer than what came in: it says more and counts as full. Else prove '..UptoSaid'. A law counts once. -/
mutual
def uptoBulk {H : Type} : DataW H → Nat
  | .lit (.string bytes) => bytes.length + 1
  | .lit _ => 1
  | .nil => 1
  | .ptr d => uptoBulk d + 1
  | .slice elems spare => uptoBulkAll elems + uptoBulkAll spare + 1
  | .agg parts => uptoBulkAll parts + 1
  | .iface _ d => uptoBulk d + 1
  | .map entries => uptoBulkEntries entries + 1
  | .held _ => 1
def uptoBulkAll {H : Type} : List (DataW H) → Nat
  | [] => 0
  | d :: r => uptoBulk d + uptoBulkAll r
def uptoBulkEntries {H : Type} : List (Lit × DataW H) → Nat
  | [] => 0
  | x :: r => uptoBulkEntry x + uptoBulkEntries r
def uptoBulkEntry {H : Type} : Lit × DataW H → Nat
  | (.string bytes, d) => bytes.length + uptoBulk d + 1
  | (_, d) => uptoBulk d + 1
 end
def uptoSmall : (H : Type) → List (DataW H) → Bool := fun _ ds => decide (uptoBulkAll ds ≤ 1048576)
def OpenSpec.upto (s : _root_.Go.ChangeSpec) : _root_.Go.OpenSpec := { _root_.Go.OpenSpec.ofChange s with cond := some uptoSmall }

/-- 'laws.FnExactConstants', WHERE WHAT IT READS IS OF BULK AT MOST 1048576: true; the input reads as it did. -/
def fnExactConstantsUptoRow : OpenClaim := { program := "ytalionklcgdhiaa", sum := "2be003a658ce893310287ccbd20c8bcb6456d31966b379eeb7036ebe55209612", func := "loop.example/g00906/laws.FnExactConstants", spec := "fnExactConstants", apart := false, narrowed := true }
def FnExactConstantsUptoSaid : Prop := fnExactConstantsUptoRow.holds Try.pinned (OpenSpec.upto fnExactConstantsSpec)

/-- 'laws.FnExactLessString', WHERE WHAT IT READS IS OF BULK AT MOST 1048576: true; the input reads as it did. -/
def fnExactLessStringUptoRow : OpenClaim := { program := "ytalionklcgdhiaa", sum := "2be003a658ce893310287ccbd20c8bcb6456d31966b379eeb7036ebe55209612", func := "loop.example/g00906/laws.FnExactLessString", spec := "fnExactLessString", apart := false, narrowed := true }
def FnExactLessStringUptoSaid : Prop := fnExactLessStringUptoRow.holds Try.pinned (OpenSpec.upto fnExactLessStringSpec)

/-- 'laws.FnExactChecksum', WHERE WHAT IT READS IS OF BULK AT MOST 1048576: true; the input reads as it did. -/
def fnExactChecksumUptoRow : OpenClaim := { program := "ytalionklcgdhiaa", sum := "2be003a658ce893310287ccbd20c8bcb6456d31966b379eeb7036ebe55209612", func := "loop.example/g00906/laws.FnExactChecksum", spec := "fnExactChecksum", apart := false, narrowed := true }
def FnExactChecksumUptoSaid : Prop := fnExactChecksumUptoRow.holds Try.pinned (OpenSpec.upto fnExactChecksumSpec)

/-- 'laws.FnExactIsValidId', WHERE WHAT IT READS IS OF BULK AT MOST 1048576: true; the input reads as it did. -/
def fnExactIsValidIdUptoRow : OpenClaim := { program := "ytalionklcgdhiaa", sum := "2be003a658ce893310287ccbd20c8bcb6456d31966b379eeb7036ebe55209612", func := "loop.example/g00906/laws.FnExactIsValidId", spec := "fnExactIsValidId", apart := false, narrowed := true }
def FnExactIsValidIdUptoSaid : Prop := fnExactIsValidIdUptoRow.holds Try.pinned (OpenSpec.upto fnExactIsValidIdSpec)

/-- 'laws.FnExactCheckLetter', WHERE WHAT IT READS IS OF BULK AT MOST 1048576: true; the input reads as it did. -/
def fnExactCheckLetterUptoRow : OpenClaim := { program := "ytalionklcgdhiaa", sum := "2be003a658ce893310287ccbd20c8bcb6456d31966b379eeb7036ebe55209612", func := "loop.example/g00906/laws.FnExactCheckLetter", spec := "fnExactCheckLetter", apart := false, narrowed := true }
def FnExactCheckLetterUptoSaid : Prop := fnExactCheckLetterUptoRow.holds Try.pinned (OpenSpec.upto fnExactCheckLetterSpec)

/-- 'laws.FnExactCountRelocations', WHERE WHAT IT READS IS OF BULK AT MOST 1048576: true; the input reads as it did. -/
def fnExactCountRelocationsUptoRow : OpenClaim := { program := "ytalionklcgdhiaa", sum := "2be003a658ce893310287ccbd20c8bcb6456d31966b379eeb7036ebe55209612", func := "loop.example/g00906/laws.FnExactCountRelocations", spec := "fnExactCountRelocations", apart := false, narrowed := true }
def FnExactCountRelocationsUptoSaid : Prop := fnExactCountRelocationsUptoRow.holds Try.pinned (OpenSpec.upto fnExactCountRelocationsSpec)

/-- 'laws.FnExactIsValidContainer', WHERE WHAT IT READS IS OF BULK AT MOST 1048576: true; the input reads as it did. -/
def fnExactIsValidContainerUptoRow : OpenClaim := { program := "ytalionklcgdhiaa", sum := "2be003a658ce893310287ccbd20c8bcb6456d31966b379eeb7036ebe55209612", func := "loop.example/g00906/laws.FnExactIsValidContainer", spec := "fnExactIsValidContainer", apart := false, narrowed := true }
def FnExactIsValidContainerUptoSaid : Prop := fnExactIsValidContainerUptoRow.holds Try.pinned (OpenSpec.upto fnExactIsValidContainerSpec)

/-- 'laws.FnExactIsValidRotation', WHERE WHAT IT READS IS OF BULK AT MOST 1048576: true; the input reads as it did. -/
def fnExactIsValidRotationUptoRow : OpenClaim := { program := "ytalionklcgdhiaa", sum := "2be003a658ce893310287ccbd20c8bcb6456d31966b379eeb7036ebe55209612", func := "loop.example/g00906/laws.FnExactIsValidRotation", spec := "fnExactIsValidRotation", apart := false, narrowed := true }
def FnExactIsValidRotationUptoSaid : Prop := fnExactIsValidRotationUptoRow.holds Try.pinned (OpenSpec.upto fnExactIsValidRotationSpec)

/-- 'laws.FnExactCycleDays', WHERE WHAT IT READS IS OF BULK AT MOST 1048576: true; the input reads as it did. -/
def fnExactCycleDaysUptoRow : OpenClaim := { program := "ytalionklcgdhiaa", sum := "2be003a658ce893310287ccbd20c8bcb6456d31966b379eeb7036ebe55209612", func := "loop.example/g00906/laws.FnExactCycleDays", spec := "fnExactCycleDays", apart := false, narrowed := true }
def FnExactCycleDaysUptoSaid : Prop := fnExactCycleDaysUptoRow.holds Try.pinned (OpenSpec.upto fnExactCycleDaysSpec)

/-- 'laws.FnExactDaysBetween', WHERE WHAT IT READS IS OF BULK AT MOST 1048576: true; the input reads as it did. -/
def fnExactDaysBetweenUptoRow : OpenClaim := { program := "ytalionklcgdhiaa", sum := "2be003a658ce893310287ccbd20c8bcb6456d31966b379eeb7036ebe55209612", func := "loop.example/g00906/laws.FnExactDaysBetween", spec := "fnExactDaysBetween", unfollowed := true, recurses := true, apart := false, narrowed := true }
def FnExactDaysBetweenUptoSaid : Prop := fnExactDaysBetweenUptoRow.holds Try.pinned (OpenSpec.upto fnExactDaysBetweenSpec)

/-- 'laws.FnExactIsValidYard', WHERE WHAT IT READS IS OF BULK AT MOST 1048576: true; the input reads as it did. -/
def fnExactIsValidYardUptoRow : OpenClaim := { program := "ytalionklcgdhiaa", sum := "2be003a658ce893310287ccbd20c8bcb6456d31966b379eeb7036ebe55209612", func := "loop.example/g00906/laws.FnExactIsValidYard", spec := "fnExactIsValidYard", apart := false, narrowed := true }
def FnExactIsValidYardUptoSaid : Prop := fnExactIsValidYardUptoRow.holds Try.pinned (OpenSpec.upto fnExactIsValidYardSpec)

end Rows
end Go.Proofs.Ytalionklcgdhiaa
