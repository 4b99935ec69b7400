/- Part K3A of the proof. -/
import Derived.Test.YtmninopppdnhoaaGreatKC
set_option linter.unusedVariables false
set_option linter.unusedSimpArgs false
section
namespace Hm
open Go
theorem chn_snoc {l : List Sx} : ∀ (xs : List Int) (a c : Int), chn l a (xs ++ [c]) = match chn l a xs with
    | none => none
    | some e => if c < 0 ∨ c ≠ e - 1 then none else some (e - sz l c.toNat)
  | [], a, c => by simp only [List.nil_append, chn]
  | x :: xs, a, c => by
    simp only [List.cons_append, chn]
    split
    · rfl
    · exact chn_snoc xs _ c
end Hm
end
