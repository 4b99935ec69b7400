/- A plan is a solution of the full task exactly if it is one of the task with what can be reached, where all its steps occur, for every input. -/
import Derived.Test.YtcafpbooikaahaaGreatYHA
import Derived.Test.YtcafpbooikaahaaGreatY5HA
import Derived.Test.YtcafpbooikaahaaGreatRows
set_option linter.unusedVariables false
set_option linter.unusedSimpArgs false
namespace Go.Proofs.YtcafpbooikaahaaGreat
open Hm
set_option maxRecDepth 100000
theorem own : ownKnob Tryz.prog.godebug = none := by kernel_rfl
theorem laid : laidOutB Tryz.prog = true := by kernel_rfl
theorem groundReachLosesNoPlan_in (H : Type) (ds : List (DataW H)) (hl : ds.length = 2) (h : ∀ (j : Nat) t d, [29, 39][j]? = some t → ds[j]? = some d → ∃ n, wt Tryz.prog n t d) : Fc Tryz.prog 7 (ds.map dv) (.bool true) := by
  match ds, hl with
  | [d0, d1], _ =>
    obtain ⟨_, h0⟩ := h 0 _ d0 rfl rfl
    obtain ⟨_, h1⟩ := h 1 _ d1 rfl rfl
    obtain ⟨x0, e0, p0⟩ := in_Dom h0
    obtain ⟨x1, e1, p1⟩ := in_Ints h1
    simp only [List.map_cons, List.map_nil, e0, e1]
    exact f_L1_GroundReachLosesNoPlan x0 p0 x1 (by omega)
theorem groundReachLosesNoPlan_lifted (os : Os) (started : os.Started) (H : Type) (enc : TypeId × Value → H) :
    ReturnsInHanded {} Tryz.checked os 7 .any (Rows.groundReachLosesNoPlanSpec.pre6 enc Tryz.prog Tryz.f7 Rows.groundReachLosesNoPlanRow.domain false) (Rows.groundReachLosesNoPlanSpec.post enc Tryz.prog Tryz.f7 false true false false) :=
  law_lift (C := Tryz.checked) (n := 12) (tb := 4) own started (by kernel_rfl) Tryz.func7
    (ChangeSpec.witness6 (enc := enc) (C := Tryz.checked) false ⟨#[], #[.agg #[.slice none 0 0, .slice none 0 0, .slice none 0 0, .slice none 0 0, .slice none 0 0, .slice none 0 0], .slice none 0 0], []⟩ 8 (by kernel_rfl) (by kernel_rfl) (by kernel_rfl) (by kernel_rfl))
    rfl (fun ds hl => match ds, hl with
      | [_, _], _ => ⟨rfl, rfl, rfl⟩) laid (by kernel_rfl) (by kernel_rfl) (by kernel_rfl) Tryz.underlying4 (fun ds hl h => groundReachLosesNoPlan_in H ds hl h)
theorem groundReachLosesNoPlan_closed : joinedFacts Tryz.checked.prog 7 Tryz.f7 Rows.groundReachLosesNoPlanSpec Rows.groundReachLosesNoPlanRow = true := by kernel_rfl
theorem groundReachLosesNoPlan_holds : Rows.GroundReachLosesNoPlanSaid :=
  OpenClaim.holds_of_wide 7 Tryz.f7 rfl rfl rfl rfl rfl rfl rfl ⟨rfl, rfl, rfl, rfl, rfl⟩ rfl rfl rfl rfl rfl (by kernel_rfl) Tryz.func7 groundReachLosesNoPlan_closed
    (of_decide_eq_true (by kernel_rfl)) (by unfold Func.isWrapper; first | (rw [if_pos (by decide +kernel)]; kernel_rfl) | (rw [if_neg (by decide +kernel)]; exact ⟨rfl, rfl⟩))
    (fun os started H enc _ => groundReachLosesNoPlan_lifted os started H enc)
end Go.Proofs.YtcafpbooikaahaaGreat
