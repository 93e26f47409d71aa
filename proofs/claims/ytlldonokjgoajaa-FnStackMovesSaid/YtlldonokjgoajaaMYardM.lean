/- When a yard is valid: a plain definition. -/
import Derived.Test.YtlldonokjgoajaaMRange
namespace Go.Proofs.Ytlldonokjgoajaa.X
open Go.RowKit Go.Proofs.YtlldonokjgoajaaW.PrintWords Go.Proofs.YtlldonokjgoajaaW.PrintLast
set_option linter.unusedVariables false
set_option linter.unusedSimpArgs false
theorem inB_iff {x a b : Int} : inB x a b = true ↔ a ≤ x ∧ x ≤ b := by unfold inB; simp
/-- The numbers seen behind a row, if each is within 1 to 99 and new. -/
def seeRow (seen : List Int) : List Int → Option (List Int)
  | [] => some seen
  | n :: r => if inB n 1 99 = true then (if seen.contains n = true then none else seeRow (seen ++ [n]) r) else none
def goodRows (seen : List Int) : List (List Int) → Bool
  | [] => true
  | s :: rest => if 4 < s.length then false else match seeRow seen s with | none => false | some t => goodRows t rest
def goodY (ss : List (List Int)) : Bool := inB (ss.length : Int) 1 6 && goodRows [] ss
theorem seeRow_len : ∀ (s seen t : List Int), seeRow seen s = some t → t.length = seen.length + s.length
  | [], seen, t, h => by simp only [seeRow, Option.some.injEq] at h; subst h; simp
  | n :: r, seen, t, h => by
    simp only [seeRow] at h
    split at h
    · split at h
      · cases h
      · have := seeRow_len r _ _ h
        simp at this ⊢
        omega
    · cases h
end Go.Proofs.Ytlldonokjgoajaa.X
