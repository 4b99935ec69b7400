/- Reading an expression, with all errors, is as specified, for every input. -/
import Derived.Test.YtpfjohmafkhcjaaKHA
import Derived.Test.YtpfjohmafkhcjaaRows
set_option linter.unusedVariables false
set_option linter.unusedSimpArgs false
namespace Go.Proofs.Ytpfjohmafkhcjaa
open Hm
set_option maxRecDepth 100000
theorem own : ownKnob Try.prog.godebug = none := by kernel_rfl
theorem laid : laidOutB Try.prog = true := by kernel_rfl
theorem sexprReadMatchesSpec_in (H : Type) (ds : List (DataW H)) (hl : ds.length = 1) (h : ∀ (j : Nat) t d, [9][j]? = some t → ds[j]? = some d → ∃ n, wt Try.prog n t d) : Fc Try.prog 3 (ds.map dv) (.bool true) := by
  match ds, hl with
  | [d0], _ =>
    obtain ⟨_, h0⟩ := h 0 _ d0 rfl rfl
    obtain ⟨x0, e0, p0⟩ := in_str h0
    simp only [List.map_cons, List.map_nil, e0]
    exact f_L1_SexprReadMatchesSpec x0 (by omega)
theorem sexprReadMatchesSpec_lifted (os : Os) (started : os.Started) (H : Type) (enc : TypeId × Value → H) :
    ReturnsInHanded {} Try.checked os 3 .any (Rows.sexprReadMatchesSpecSpec.pre6 enc Try.prog Try.f3 Rows.sexprReadMatchesSpecRow.domain false) (Rows.sexprReadMatchesSpecSpec.post enc Try.prog Try.f3 false true false false) :=
  law_lift (C := Try.checked) (n := 12) (tb := 4) own started (by kernel_rfl) Try.func3
    (ChangeSpec.witness6 (enc := enc) (C := Try.checked) false ⟨#[], #[.string ⟨#[]⟩], []⟩ 8 (by kernel_rfl) (by kernel_rfl) (by kernel_rfl) (by kernel_rfl))
    rfl (fun ds hl => match ds, hl with
      | [_], _ => ⟨rfl, rfl, rfl⟩) laid (by kernel_rfl) (by kernel_rfl) (by kernel_rfl) Try.underlying4 rfl (fun ds hl h => sexprReadMatchesSpec_in H ds hl h)
theorem sexprReadMatchesSpec_closed : joinedFacts Try.checked.prog 3 Try.f3 Rows.sexprReadMatchesSpecSpec Rows.sexprReadMatchesSpecRow = true := by kernel_rfl
theorem sexprReadMatchesSpec_holds : Rows.SexprReadMatchesSpecSaid :=
  OpenClaim.holds_of_wide 3 Try.f3 rfl rfl rfl rfl rfl rfl rfl ⟨rfl, rfl, rfl, rfl, rfl⟩ rfl rfl rfl rfl rfl (by kernel_rfl) Try.func3 sexprReadMatchesSpec_closed
    (of_decide_eq_true (by kernel_rfl)) (by unfold Func.isWrapper; first | (rw [if_pos (by decide +kernel)]; kernel_rfl) | (rw [if_neg (by decide +kernel)]; exact ⟨rfl, rfl⟩))
    (fun os started H enc _ => sexprReadMatchesSpec_lifted os started H enc)
end Go.Proofs.Ytpfjohmafkhcjaa
