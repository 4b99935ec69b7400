/- The statement on shortened plans, for every input. -/
import Derived.Test.YtojbakjdbodidaaKHA
import Derived.Test.YtojbakjdbodidaaRows
set_option linter.unusedVariables false
set_option linter.unusedSimpArgs false
namespace Go.Proofs.Ytojbakjdbodidaa
open Hm
set_option maxRecDepth 100000
theorem own : ownKnob Try.prog.godebug = none := by kernel_rfl
theorem laid : laidOutB Try.prog = true := by kernel_rfl
theorem topShortenedPlansAreBounded_in (H : Type) (ds : List (DataW H)) (hl : ds.length = 2) (h : ∀ (j : Nat) t d, [25, 22][j]? = some t → ds[j]? = some d → ∃ n, wt Try.prog n t d) : Fc Try.prog 3 (ds.map dv) (.bool true) := by
  match ds, hl with
  | [d0, d1], _ =>
    obtain ⟨_, h0⟩ := h 0 _ d0 rfl rfl
    obtain ⟨_, h1⟩ := h 1 _ d1 rfl rfl
    obtain ⟨x0, e0, p0⟩ := in_STask h0
    obtain ⟨x1, e1, p1⟩ := in_Ints h1
    simp only [List.map_cons, List.map_nil, e0, e1]
    exact f_T_Top12 x0 p0 x1 (by omega)
theorem topShortenedPlansAreBounded_lifted (os : Os) (started : os.Started) (H : Type) (enc : TypeId × Value → H) :
    ReturnsInHanded {} Try.checked os 3 .any (Rows.topShortenedPlansAreBoundedSpec.pre6 enc Try.prog Try.f3 Rows.topShortenedPlansAreBoundedRow.domain false) (Rows.topShortenedPlansAreBoundedSpec.post enc Try.prog Try.f3 false true false false) :=
  law_lift (C := Try.checked) (n := 12) (tb := 4) own started (by kernel_rfl) Try.func3
    (ChangeSpec.witness6 (enc := enc) (C := Try.checked) false ⟨#[], #[.agg #[.int .i64 0, .slice none 0 0, .slice none 0 0, .slice none 0 0], .slice none 0 0], []⟩ 8 (by kernel_rfl) (by kernel_rfl) (by kernel_rfl) (by kernel_rfl))
    rfl (fun ds hl => match ds, hl with
      | [_, _], _ => ⟨rfl, rfl, rfl⟩) laid (by kernel_rfl) (by kernel_rfl) (by kernel_rfl) Try.underlying4 rfl (fun ds hl h => topShortenedPlansAreBounded_in H ds hl h)
theorem topShortenedPlansAreBounded_closed : joinedFacts Try.checked.prog 3 Try.f3 Rows.topShortenedPlansAreBoundedSpec Rows.topShortenedPlansAreBoundedRow = true := by kernel_rfl
theorem topShortenedPlansAreBounded_holds : Rows.TopShortenedPlansAreBoundedSaid :=
  OpenClaim.holds_of_wide 3 Try.f3 rfl rfl rfl rfl rfl rfl rfl ⟨rfl, rfl, rfl, rfl, rfl⟩ rfl rfl rfl rfl rfl (by kernel_rfl) Try.func3 topShortenedPlansAreBounded_closed
    (of_decide_eq_true (by kernel_rfl)) (by unfold Func.isWrapper; first | (rw [if_pos (by decide +kernel)]; kernel_rfl) | (rw [if_neg (by decide +kernel)]; exact ⟨rfl, rfl⟩))
    (fun os started H enc _ => topShortenedPlansAreBounded_lifted os started H enc)
end Go.Proofs.Ytojbakjdbodidaa
