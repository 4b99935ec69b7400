/- Part T2PA of the proof. -/
import Derived.Test.YtkbiopblaggdoaaGreatDoorTPA
set_option linter.unusedVariables false
set_option linter.unusedSimpArgs false
section
namespace Hm
open Go
theorem in_str {H : Type} {n : Nat} {d : DataW H} (h : wt Go.Proofs.Tryz.prog n 9 d) : ∃ s : List UInt8, dv d = .str s ∧ s.length ≤ 140737488351232 := by
  obtain ⟨s, rfl, hs⟩ := wt_str Go.Proofs.Tryz.underlying9 h
  exact ⟨s, rfl, hs⟩
end Hm
end
