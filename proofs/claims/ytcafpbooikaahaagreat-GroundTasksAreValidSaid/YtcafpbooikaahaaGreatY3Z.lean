/- Both tasks of a domain are valid, their facts are different, and the task with what can be reached is not larger, for every input. -/
import Derived.Test.YtcafpbooikaahaaGreatYHA
import Derived.Test.YtcafpbooikaahaaGreatY3HA
import Derived.Test.YtcafpbooikaahaaGreatRows
set_option linter.unusedVariables false
set_option linter.unusedSimpArgs false
namespace Go.Proofs.YtcafpbooikaahaaGreat
open Hm
set_option maxRecDepth 100000
theorem own : ownKnob Tryz.prog.godebug = none := by kernel_rfl
theorem laid : laidOutB Tryz.prog = true := by kernel_rfl
theorem groundTasksAreValid_in (H : Type) (ds : List (DataW H)) (hl : ds.length = 1) (h : ∀ (j : Nat) t d, [29][j]? = some t → ds[j]? = some d → ∃ n, wt Tryz.prog n t d) : Fc Tryz.prog 5 (ds.map dv) (.bool true) := by
  match ds, hl with
  | [d0], _ =>
    obtain ⟨_, h0⟩ := h 0 _ d0 rfl rfl
    obtain ⟨x0, e0, p0⟩ := in_Dom h0
    simp only [List.map_cons, List.map_nil, e0]
    exact f_L1_GroundTasksAreValid x0 p0
theorem groundTasksAreValid_lifted (os : Os) (started : os.Started) (H : Type) (enc : TypeId × Value → H) :
    ReturnsInHanded {} Tryz.checked os 5 .any (Rows.groundTasksAreValidSpec.pre6 enc Tryz.prog Tryz.f5 Rows.groundTasksAreValidRow.domain false) (Rows.groundTasksAreValidSpec.post enc Tryz.prog Tryz.f5 false true false false) :=
  law_lift (C := Tryz.checked) (n := 12) (tb := 4) own started (by kernel_rfl) Tryz.func5
    (ChangeSpec.witness6 (enc := enc) (C := Tryz.checked) false ⟨#[], #[.agg #[.slice none 0 0, .slice none 0 0, .slice none 0 0, .slice none 0 0, .slice none 0 0, .slice none 0 0]], []⟩ 8 (by kernel_rfl) (by kernel_rfl) (by kernel_rfl) (by kernel_rfl))
    rfl (fun ds hl => match ds, hl with
      | [_], _ => ⟨rfl, rfl, rfl⟩) laid (by kernel_rfl) (by kernel_rfl) (by kernel_rfl) Tryz.underlying4 (fun ds hl h => groundTasksAreValid_in H ds hl h)
theorem groundTasksAreValid_closed : joinedFacts Tryz.checked.prog 5 Tryz.f5 Rows.groundTasksAreValidSpec Rows.groundTasksAreValidRow = true := by kernel_rfl
theorem groundTasksAreValid_holds : Rows.GroundTasksAreValidSaid :=
  OpenClaim.holds_of_wide 5 Tryz.f5 rfl rfl rfl rfl rfl rfl rfl ⟨rfl, rfl, rfl, rfl, rfl⟩ rfl rfl rfl rfl rfl (by kernel_rfl) Tryz.func5 groundTasksAreValid_closed
    (of_decide_eq_true (by kernel_rfl)) (by unfold Func.isWrapper; first | (rw [if_pos (by decide +kernel)]; kernel_rfl) | (rw [if_neg (by decide +kernel)]; exact ⟨rfl, rfl⟩))
    (fun os started H enc _ => groundTasksAreValid_lifted os started H enc)
end Go.Proofs.YtcafpbooikaahaaGreat
