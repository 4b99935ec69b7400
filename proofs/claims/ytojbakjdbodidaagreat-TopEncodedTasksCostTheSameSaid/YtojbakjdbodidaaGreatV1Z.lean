/- A task and the translation of its multi-valued task, made with all groups that are found, have the same least cost; proved for every input, without further conditions. -/
import Derived.Test.YtojbakjdbodidaaGreatVHA
import Derived.Test.YtojbakjdbodidaaGreatRows
set_option linter.unusedVariables false
set_option linter.unusedSimpArgs false
namespace Go.Proofs.YtojbakjdbodidaaGreat
open Hm
set_option maxRecDepth 100000
theorem own : ownKnob Tryz.prog.godebug = none := by kernel_rfl
theorem laid : laidOutB Tryz.prog = true := by kernel_rfl
theorem topEncodedTasksCostTheSame_in (H : Type) (ds : List (DataW H)) (hl : ds.length = 1) (h : ∀ (j : Nat) t d, [25][j]? = some t → ds[j]? = some d → ∃ n, wt Tryz.prog n t d) : Fc Tryz.prog 3 (ds.map dv) (.bool true) := by
 match ds, hl with
 | [d0], _ =>
  obtain ⟨_, h0⟩ := h 0 _ d0 rfl rfl
  obtain ⟨x0, e0, p0⟩ := in_STask h0
  simp only [List.map_cons, List.map_nil, e0]
  exact f_T_Top17 x0 p0
theorem topEncodedTasksCostTheSame_lifted (os : Os) (started : os.Started) (H : Type) (enc : TypeId × Value → H) :
  ReturnsInHanded {} Tryz.checked os 3 .any (Rows.topEncodedTasksCostTheSameSpec.pre6 enc Tryz.prog Tryz.f3 Rows.topEncodedTasksCostTheSameRow.domain false) (Rows.topEncodedTasksCostTheSameSpec.post enc Tryz.prog Tryz.f3 false true false false) :=
 law_lift (C := Tryz.checked) (n := 12) (tb := 4) own started (by kernel_rfl) Tryz.func3
  (ChangeSpec.witness6 (enc := enc) (C := Tryz.checked) false ⟨#[], #[.agg #[.int .i64 0, .slice none 0 0, .slice none 0 0, .slice none 0 0]], []⟩ 8 (by kernel_rfl) (by kernel_rfl) (by kernel_rfl) (by kernel_rfl))
  rfl (fun ds hl => match ds, hl with
   | [_], _ => ⟨rfl, rfl, rfl⟩) laid (by kernel_rfl) (by kernel_rfl) (by kernel_rfl) Tryz.underlying4 rfl (fun ds hl h => topEncodedTasksCostTheSame_in H ds hl h)
theorem topEncodedTasksCostTheSame_closed : joinedFacts Tryz.checked.prog 3 Tryz.f3 Rows.topEncodedTasksCostTheSameSpec Rows.topEncodedTasksCostTheSameRow = true := by kernel_rfl
theorem topEncodedTasksCostTheSame_holds : Rows.TopEncodedTasksCostTheSameSaid :=
 OpenClaim.holds_of_wide 3 Tryz.f3 rfl rfl rfl rfl rfl rfl rfl ⟨rfl, rfl, rfl, rfl, rfl⟩ rfl rfl rfl rfl rfl (by kernel_rfl) Tryz.func3 topEncodedTasksCostTheSame_closed
  (of_decide_eq_true (by kernel_rfl)) (by unfold Func.isWrapper; first | (rw [if_pos (by decide +kernel)]; kernel_rfl) | (rw [if_neg (by decide +kernel)]; exact ⟨rfl, rfl⟩))
  (fun os started H enc _ => topEncodedTasksCostTheSame_lifted os started H enc)
end Go.Proofs.YtojbakjdbodidaaGreat
