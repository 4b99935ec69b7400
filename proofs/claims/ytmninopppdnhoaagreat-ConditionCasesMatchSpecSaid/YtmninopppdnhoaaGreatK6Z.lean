/- The cases of a condition, with all errors, are as specified, for every input. -/
import Derived.Test.YtmninopppdnhoaaGreatKHA
import Derived.Test.YtmninopppdnhoaaGreatK6HA
import Derived.Test.YtmninopppdnhoaaGreatRows
set_option linter.unusedVariables false
set_option linter.unusedSimpArgs false
namespace Go.Proofs.YtmninopppdnhoaaGreat
open Hm
set_option maxRecDepth 100000
theorem own : ownKnob Tryz.prog.godebug = none := by kernel_rfl
theorem laid : laidOutB Tryz.prog = true := by kernel_rfl
theorem conditionCasesMatchSpec_in (H : Type) (ds : List (DataW H)) (hl : ds.length = 3) (h : ∀ (j : Nat) t d, [29, 33, 30][j]? = some t → ds[j]? = some d → ∃ n, wt Tryz.prog n t d) : Fc Tryz.prog 5 (ds.map dv) (.bool true) := by
  match ds, hl with
  | [d0, d1, d2], _ =>
    obtain ⟨_, h0⟩ := h 0 _ d0 rfl rfl
    obtain ⟨_, h1⟩ := h 1 _ d1 rfl rfl
    obtain ⟨_, h2⟩ := h 2 _ d2 rfl rfl
    obtain ⟨x0, e0, p0⟩ := in_Dom h0
    obtain ⟨x1, e1, p1⟩ := in_Cnd h1
    obtain ⟨x2, e2, p2⟩ := in_Ints h2
    simp only [List.map_cons, List.map_nil, e0, e1, e2]
    exact f_L1_ConditionCasesMatchSpec x0 p0 x1 p1 x2 (by omega)
theorem conditionCasesMatchSpec_lifted (os : Os) (started : os.Started) (H : Type) (enc : TypeId × Value → H) :
    ReturnsInHanded {} Tryz.checked os 5 .any (Rows.conditionCasesMatchSpecSpec.pre6 enc Tryz.prog Tryz.f5 Rows.conditionCasesMatchSpecRow.domain false) (Rows.conditionCasesMatchSpecSpec.post enc Tryz.prog Tryz.f5 false true false false) :=
  law_lift (C := Tryz.checked) (n := 12) (tb := 4) own started (by kernel_rfl) Tryz.func5
    (ChangeSpec.witness6 (enc := enc) (C := Tryz.checked) false ⟨#[], #[.agg #[.slice none 0 0, .slice none 0 0, .slice none 0 0, .slice none 0 0, .slice none 0 0, .slice none 0 0], .agg #[.slice none 0 0, .slice none 0 0], .slice none 0 0], []⟩ 8 (by kernel_rfl) (by kernel_rfl) (by kernel_rfl) (by kernel_rfl))
    rfl (fun ds hl => match ds, hl with
      | [_, _, _], _ => ⟨rfl, rfl, rfl⟩) laid (by kernel_rfl) (by kernel_rfl) (by kernel_rfl) Tryz.underlying4 (fun ds hl h => conditionCasesMatchSpec_in H ds hl h)
theorem conditionCasesMatchSpec_closed : joinedFacts Tryz.checked.prog 5 Tryz.f5 Rows.conditionCasesMatchSpecSpec Rows.conditionCasesMatchSpecRow = true := by kernel_rfl
theorem conditionCasesMatchSpec_holds : Rows.ConditionCasesMatchSpecSaid :=
  OpenClaim.holds_of_wide 5 Tryz.f5 rfl rfl rfl rfl rfl rfl rfl ⟨rfl, rfl, rfl, rfl, rfl⟩ rfl rfl rfl rfl rfl (by kernel_rfl) Tryz.func5 conditionCasesMatchSpec_closed
    (of_decide_eq_true (by kernel_rfl)) (by unfold Func.isWrapper; first | (rw [if_pos (by decide +kernel)]; kernel_rfl) | (rw [if_neg (by decide +kernel)]; exact ⟨rfl, rfl⟩))
    (fun os started H enc _ => conditionCasesMatchSpec_lifted os started H enc)
end Go.Proofs.YtmninopppdnhoaaGreat
