/- Named numbers by a list. -/
import Derived.Test.YtlldjadlhgonbaaGreatDenWN
set_option linter.unusedVariables false
set_option linter.unusedSimpArgs false
set_option autoImplicit false
set_option linter.unusedVariables false
namespace Den
open Go
namespace KK
/-- named numbers by a list -/
def vlOf (l : List (Nat × Int)) (h : ∀ p ∈ l, 0 ≤ p.2 ∧ p.2 ≤ symHi p.1) : Vl := ⟨fun x => match l.find? (fun p => p.1 == x) with | some p => p.2 | none => 0, fun x => by
  cases hf : l.find? (fun p => p.1 == x) with
  | none => exact ⟨Int.le_refl _, Int.natCast_nonneg _⟩
  | some p =>
    have h1 := h p (List.mem_of_find?_eq_some hf)
    have h2 := List.find?_some hf
    have h3 : p.1 = x := by simpa using h2
    subst h3
    exact h1⟩
end KK
end Den
