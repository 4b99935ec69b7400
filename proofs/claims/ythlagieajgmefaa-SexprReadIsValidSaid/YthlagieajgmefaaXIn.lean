/- What comes in: expressions, strings. -/
import Derived.Test.YthlagieajgmefaaXA
import Derived.Test.YthlagieajgmefaaCoreC
section
/- What comes in: expressions, strings. -/
namespace Hm
set_option linter.unusedVariables false
set_option linter.unusedSimpArgs false
open Go
theorem by_intX : Program.bytesOf Go.Proofs.Try.prog 3 = 8 := by kernel_rfl
theorem by_Sx : Program.bytesOf Go.Proofs.Try.prog 37 = 40 := by kernel_rfl
theorem in_Int1X {H : Type} (n : Nat) (d : DataW H) (h : wt Go.Proofs.Try.prog n 3 d) : ∃ m, dv d = i64V m ∧ InR .i64 m := by
  obtain ⟨m, rfl, hm⟩ := wt_int Go.Proofs.Try.underlying3 h
  exact ⟨m, rfl, hm⟩
theorem in_IntsR {H : Type} {n : Nat} {d : DataW H} (h : wt Go.Proofs.Try.prog n 35 d) : ∃ l : List Int, dv d = .sl .p (l.map i64V) ∧ l.length ≤ 17592186044416 ∧ ∀ c ∈ l, InR .i64 c := by
  obtain ⟨l, h1, h2, h3⟩ := wt_sl Go.Proofs.Try.underlying35 in_Int1X h
  rw [by_intX] at h2
  exact ⟨l, h1, by omega, h3⟩
theorem in_str {H : Type} {n : Nat} {d : DataW H} (h : wt Go.Proofs.Try.prog n 9 d) : ∃ s : List UInt8, dv d = .str s ∧ s.length ≤ 140737488351232 := by
  obtain ⟨s, rfl, hs⟩ := wt_str Go.Proofs.Try.underlying9 h
  exact ⟨s, rfl, hs⟩
theorem in_Sx {H : Type} (n : Nat) (d : DataW H) (h : wt Go.Proofs.Try.prog n 37 d) : ∃ t : Sx, dv d = sxV t ∧ (t.sym.length ≤ 140737488355328 ∧ t.ch.length ≤ 140737488355328) ∧ ∀ c ∈ t.ch, InR .i64 c := by
  obtain ⟨parts, m, rfl, hp⟩ := wt_st Go.Proofs.Try.underlying37 h
  match parts, hp with
  | [d0, d1], hp =>
    obtain ⟨h0, h1, _⟩ := hp
    obtain ⟨s, rfl, hs⟩ := wt_str Go.Proofs.Try.underlying9 h0
    obtain ⟨l, e1, b1, r1⟩ := in_IntsR h1
    refine ⟨⟨s, l⟩, ?_, ⟨by simp only; omega, by simp only; omega⟩, r1⟩
    simp only [dv, dvC, V.cells, e1, List.append_nil, sxV, List.cons_append, List.nil_append]
theorem in_Sxs {H : Type} {n : Nat} {d : DataW H} (h : wt Go.Proofs.Try.prog n 22 d) : ∃ l : List Sx, dv d = .sl .p (l.map sxV) ∧ SxsOk l := by
  obtain ⟨l, h1, h2, h3⟩ := wt_sl Go.Proofs.Try.underlying22 in_Sx h
  rw [by_Sx] at h2
  exact ⟨l, h1, by omega, fun x hx => (h3 x hx).1, fun x hx => (h3 x hx).2⟩
end Hm
end
