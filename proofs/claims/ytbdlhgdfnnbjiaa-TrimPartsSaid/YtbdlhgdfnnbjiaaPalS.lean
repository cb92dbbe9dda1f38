/-! Palindromes of lists: plain laws (a part). -/
namespace Go.Proofs.Ytbdlhgdfnnbjiaa.Pal
set_option linter.unusedSectionVars false
variable {α : Type} [DecidableEq α]
/-- A palindrome. -/
def Pal (l : List α) : Prop := l.reverse = l
instance (l : List α) : Decidable (Pal l) := inferInstanceAs (Decidable (l.reverse = l))
theorem pal_nil : Pal ([] : List α) := rfl
theorem pal_one (x : α) : Pal [x] := rfl
end Go.Proofs.Ytbdlhgdfnnbjiaa.Pal
