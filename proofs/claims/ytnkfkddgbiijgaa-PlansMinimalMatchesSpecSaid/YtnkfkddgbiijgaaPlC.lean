/- What comes in: integers, lists of integers. -/
import Derived.Test.YtnkfkddgbiijgaaStA
import Derived.Test.YtnkfkddgbiijgaaCoreC
section
/- What comes in: integers, lists of integers. -/
namespace Hm
set_option linter.unusedVariables false
set_option linter.unusedSimpArgs false
open Go
theorem in_int {H : Type} {n : Nat} {d : DataW H} (h : wt Go.Proofs.Try.prog n 3 d) : ∃ m, dv d = .int .i64 m ∧ InR .i64 m := by
  obtain ⟨m, rfl, hm⟩ := wt_int Go.Proofs.Try.underlying3 h
  exact ⟨m, rfl, hm⟩
theorem by_int : Program.bytesOf Go.Proofs.Try.prog 3 = 8 := by kernel_rfl
theorem in_Int1 {H : Type} (n : Nat) (d : DataW H) (h : wt Go.Proofs.Try.prog n 3 d) : ∃ m, dv d = i64V m ∧ InR .i64 m := in_int h
theorem in_Ints {H : Type} {n : Nat} {d : DataW H} (h : wt Go.Proofs.Try.prog n 22 d) : ∃ l : List Int, dv d = .sl .p (l.map i64V) ∧ l.length ≤ 17592186044416 := by
  obtain ⟨l, h1, h2, h3⟩ := wt_sl Go.Proofs.Try.underlying22 in_Int1 h
  rw [by_int] at h2
  exact ⟨l, h1, by omega⟩
end Hm
end

section
/- What comes in: tasks over sets of facts. -/
namespace Hm
set_option linter.unusedVariables false
set_option linter.unusedSimpArgs false
open Go
theorem by_SOp : Program.bytesOf Go.Proofs.Try.prog 52 = 80 := by kernel_rfl
theorem in_SOp {H : Type} (n : Nat) (d : DataW H) (h : wt Go.Proofs.Try.prog n 52 d) : ∃ t : SOp, dv d = soV t ∧ t.pre.length ≤ 17592186044416 ∧ t.add.length ≤ 17592186044416 ∧ t.del.length ≤ 17592186044416 := by
  obtain ⟨parts, m, rfl, hp⟩ := wt_st Go.Proofs.Try.underlying52 h
  match parts, hp with
  | [d0, d1, d2, d3], hp =>
    obtain ⟨h0, h1, h2, h3, _⟩ := hp
    obtain ⟨l0, e0, b0⟩ := in_Ints h0
    obtain ⟨l1, e1, b1⟩ := in_Ints h1
    obtain ⟨l2, e2, b2⟩ := in_Ints h2
    obtain ⟨k, rfl, hk⟩ := wt_int Go.Proofs.Try.underlying3 h3
    refine ⟨⟨l0, l1, l2, k⟩, ?_, b0, b1, b2⟩
    simp only [dv, dvC, V.cells, e0, e1, e2, List.append_nil, soV, List.cons_append, List.nil_append]
theorem in_SOps {H : Type} {n : Nat} {d : DataW H} (h : wt Go.Proofs.Try.prog n 23 d) : ∃ l : List SOp, dv d = .sl .p (l.map soV) ∧ l.length ≤ 17592186044416 ∧ ∀ t ∈ l, t.pre.length ≤ 17592186044416 ∧ t.add.length ≤ 17592186044416 ∧ t.del.length ≤ 17592186044416 := by
  obtain ⟨l, h1, h2, h3⟩ := wt_sl Go.Proofs.Try.underlying23 in_SOp h
  rw [by_SOp] at h2
  exact ⟨l, h1, by omega, h3⟩
theorem in_STask {H : Type} {n : Nat} {d : DataW H} (h : wt Go.Proofs.Try.prog n 25 d) : ∃ t : STask, dv d = skV t ∧ SkOk t := by
  obtain ⟨parts, m, rfl, hp⟩ := wt_st Go.Proofs.Try.underlying25 h
  match parts, hp with
  | [d0, d1, d2, d3], hp =>
    obtain ⟨h0, h1, h2, h3, _⟩ := hp
    obtain ⟨k, rfl, hk⟩ := wt_int Go.Proofs.Try.underlying3 h0
    obtain ⟨l1, e1, b1⟩ := in_Ints h1
    obtain ⟨l2, e2, b2⟩ := in_Ints h2
    obtain ⟨l3, e3, b3, b4⟩ := in_SOps h3
    refine ⟨⟨k, l1, l2, l3⟩, ?_, ?_⟩
    · simp only [dv, dvC, V.cells, e1, e2, e3, List.append_nil, skV, List.cons_append, List.nil_append]
    · exact ⟨Nat.le_trans b1 (by decide), Nat.le_trans b2 (by decide), Nat.le_trans b3 (by decide), fun o ho => ⟨Nat.le_trans (b4 o ho).1 (by decide), Nat.le_trans (b4 o ho).2.1 (by decide), Nat.le_trans (b4 o ho).2.2 (by decide)⟩⟩
end Hm
end
