/- The statement on minimal plans, for every input. -/
import Derived.Test.YtnkfkddgbiijgaaPlG
import Derived.Test.YtnkfkddgbiijgaaRows
import Derived.Test.YtnkfkddgbiijgaaPlC
section
/- The statement on minimal plans, for every input. -/
namespace Go.Proofs.Ytnkfkddgbiijgaa
set_option linter.unusedVariables false
set_option linter.unusedSimpArgs false
open Hm
set_option maxRecDepth 100000
theorem own : ownKnob Try.prog.godebug = none := by kernel_rfl
theorem laid : laidOutB Try.prog = true := by kernel_rfl
theorem plansMinimalMatchesSpec_in (H : Type) (ds : List (DataW H)) (hl : ds.length = 2) (h : ∀ (j : Nat) t d, [25, 22][j]? = some t → ds[j]? = some d → ∃ n, wt Try.prog n t d) : Fc Try.prog 4 (ds.map dv) (.bool true) := by
  match ds, hl with
  | [d0, d1], _ =>
    obtain ⟨_, h0⟩ := h 0 _ d0 rfl rfl
    obtain ⟨_, h1⟩ := h 1 _ d1 rfl rfl
    obtain ⟨x0, e0, p0⟩ := in_STask h0
    obtain ⟨x1, e1, p1⟩ := in_Ints h1
    simp only [List.map_cons, List.map_nil, e0, e1]
    exact f_L1_PlansMinimalMatchesSpec x0 p0 x1 (by omega)
theorem plansMinimalMatchesSpec_lifted (os : Os) (started : os.Started) (H : Type) (enc : TypeId × Value → H) :
    ReturnsInHanded {} Try.checked os 4 .any (Rows.plansMinimalMatchesSpecSpec.pre6 enc Try.prog Try.f4 Rows.plansMinimalMatchesSpecRow.domain false) (Rows.plansMinimalMatchesSpecSpec.post enc Try.prog Try.f4 false true false false) :=
  law_lift (C := Try.checked) (n := 12) (tb := 4) own started (by kernel_rfl) Try.func4
    (ChangeSpec.witness6 (enc := enc) (C := Try.checked) false ⟨#[], #[.agg #[.int .i64 0, .slice none 0 0, .slice none 0 0, .slice none 0 0], .slice none 0 0], []⟩ 8 (by kernel_rfl) (by kernel_rfl) (by kernel_rfl) (by kernel_rfl))
    rfl (fun ds hl => match ds, hl with
      | [_, _], _ => ⟨rfl, rfl, rfl⟩) laid (by kernel_rfl) (by kernel_rfl) (by kernel_rfl) Try.underlying4 (fun ds hl h => plansMinimalMatchesSpec_in H ds hl h)
theorem plansMinimalMatchesSpec_closed : joinedFacts Try.checked.prog 4 Try.f4 Rows.plansMinimalMatchesSpecSpec Rows.plansMinimalMatchesSpecRow = true := by kernel_rfl
theorem plansMinimalMatchesSpec_holds : Rows.PlansMinimalMatchesSpecSaid :=
  OpenClaim.holds_of_wide 4 Try.f4 rfl rfl rfl rfl rfl rfl rfl ⟨rfl, rfl, rfl, rfl, rfl⟩ rfl rfl rfl rfl rfl (by kernel_rfl) Try.func4 plansMinimalMatchesSpec_closed
    (of_decide_eq_true (by kernel_rfl)) (by unfold Func.isWrapper; first | (rw [if_pos (by decide +kernel)]; kernel_rfl) | (rw [if_neg (by decide +kernel)]; exact ⟨rfl, rfl⟩))
    (fun os started H enc _ => plansMinimalMatchesSpec_lifted os started H enc)
end Go.Proofs.Ytnkfkddgbiijgaa
end
