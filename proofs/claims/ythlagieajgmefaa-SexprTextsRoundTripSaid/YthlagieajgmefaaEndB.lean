/- The statement SexprTextsRoundTrip, for every input. -/
import Derived.Test.YthlagieajgmefaaXG
import Derived.Test.YthlagieajgmefaaRows
import Derived.Test.YthlagieajgmefaaXIn
section
/- The statement SexprTextsRoundTrip, for every input. -/
namespace Go.Proofs.Ythlagieajgmefaa
set_option linter.unusedVariables false
set_option linter.unusedSimpArgs false
open Hm
set_option maxRecDepth 100000
theorem own : ownKnob Try.prog.godebug = none := by kernel_rfl
theorem laid : laidOutB Try.prog = true := by kernel_rfl
theorem sexprTextsRoundTrip_in (H : Type) (ds : List (DataW H)) (hl : ds.length = 1) (h : ∀ (j : Nat) t d, [22][j]? = some t → ds[j]? = some d → ∃ n, wt Try.prog n t d) : Fc Try.prog 5 (ds.map dv) (.bool true) := by
  match ds, hl with
  | [d0], _ =>
    obtain ⟨_, h0⟩ := h 0 _ d0 rfl rfl
    obtain ⟨x0, e0, p0⟩ := in_Sxs h0
    simp only [List.map_cons, List.map_nil, e0]
    exact f_L1_SexprTextsRoundTrip x0 p0
theorem sexprTextsRoundTrip_lifted (os : Os) (started : os.Started) (H : Type) (enc : TypeId × Value → H) :
    ReturnsInHanded {} Try.checked os 5 .any (Rows.sexprTextsRoundTripSpec.pre6 enc Try.prog Try.f5 Rows.sexprTextsRoundTripRow.domain false) (Rows.sexprTextsRoundTripSpec.post enc Try.prog Try.f5 false true false false) :=
  law_lift (C := Try.checked) (n := 12) (tb := 4) own started (by kernel_rfl) Try.func5
    (ChangeSpec.witness6 (enc := enc) (C := Try.checked) false ⟨#[], #[.slice none 0 0], []⟩ 8 (by kernel_rfl) (by kernel_rfl) (by kernel_rfl) (by kernel_rfl))
    rfl (fun ds hl => match ds, hl with
      | [_], _ => ⟨rfl, rfl, rfl⟩) laid (by kernel_rfl) (by kernel_rfl) (by kernel_rfl) Try.underlying4 (fun ds hl h => sexprTextsRoundTrip_in H ds hl h)
theorem sexprTextsRoundTrip_closed : joinedFacts Try.checked.prog 5 Try.f5 Rows.sexprTextsRoundTripSpec Rows.sexprTextsRoundTripRow = true := by kernel_rfl
theorem sexprTextsRoundTrip_holds : Rows.SexprTextsRoundTripSaid :=
  OpenClaim.holds_of_wide 5 Try.f5 rfl rfl rfl rfl rfl rfl rfl ⟨rfl, rfl, rfl, rfl, rfl⟩ rfl rfl rfl rfl rfl (by kernel_rfl) Try.func5 sexprTextsRoundTrip_closed
    (of_decide_eq_true (by kernel_rfl)) (by unfold Func.isWrapper; first | (rw [if_pos (by decide +kernel)]; kernel_rfl) | (rw [if_neg (by decide +kernel)]; exact ⟨rfl, rfl⟩))
    (fun os started H enc _ => sexprTextsRoundTrip_lifted os started H enc)
end Go.Proofs.Ythlagieajgmefaa
end
