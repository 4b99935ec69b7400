/- The statement SexprListsNest, for every input. -/
import Derived.Test.YthlagieajgmefaaXH
import Derived.Test.YthlagieajgmefaaRows
import Derived.Test.YthlagieajgmefaaXIn
section
/- The statement SexprListsNest, for every input. -/
namespace Go.Proofs.Ythlagieajgmefaa
set_option linter.unusedVariables false
set_option linter.unusedSimpArgs false
open Hm
set_option maxRecDepth 100000
theorem own : ownKnob Try.prog.godebug = none := by kernel_rfl
theorem laid : laidOutB Try.prog = true := by kernel_rfl
theorem sexprListsNest_in (H : Type) (ds : List (DataW H)) (hl : ds.length = 2) (h : ∀ (j : Nat) t d, [9, 9][j]? = some t → ds[j]? = some d → ∃ n, wt Try.prog n t d) : Fc Try.prog 7 (ds.map dv) (.bool true) := by
  match ds, hl with
  | [d0, d1], _ =>
    obtain ⟨_, h0⟩ := h 0 _ d0 rfl rfl
    obtain ⟨_, h1⟩ := h 1 _ d1 rfl rfl
    obtain ⟨x0, e0, p0⟩ := in_str h0
    obtain ⟨x1, e1, p1⟩ := in_str h1
    simp only [List.map_cons, List.map_nil, e0, e1]
    exact f_L1_SexprListsNest x0 x1 p0 p1
theorem sexprListsNest_lifted (os : Os) (started : os.Started) (H : Type) (enc : TypeId × Value → H) :
    ReturnsInHanded {} Try.checked os 7 .any (Rows.sexprListsNestSpec.pre6 enc Try.prog Try.f7 Rows.sexprListsNestRow.domain false) (Rows.sexprListsNestSpec.post enc Try.prog Try.f7 false true false false) :=
  law_lift (C := Try.checked) (n := 12) (tb := 4) own started (by kernel_rfl) Try.func7
    (ChangeSpec.witness6 (enc := enc) (C := Try.checked) false ⟨#[], #[.string ⟨#[]⟩, .string ⟨#[]⟩], []⟩ 8 (by kernel_rfl) (by kernel_rfl) (by kernel_rfl) (by kernel_rfl))
    rfl (fun ds hl => match ds, hl with
      | [_, _], _ => ⟨rfl, rfl, rfl⟩) laid (by kernel_rfl) (by kernel_rfl) (by kernel_rfl) Try.underlying4 (fun ds hl h => sexprListsNest_in H ds hl h)
theorem sexprListsNest_closed : joinedFacts Try.checked.prog 7 Try.f7 Rows.sexprListsNestSpec Rows.sexprListsNestRow = true := by kernel_rfl
theorem sexprListsNest_holds : Rows.SexprListsNestSaid :=
  OpenClaim.holds_of_wide 7 Try.f7 rfl rfl rfl rfl rfl rfl rfl ⟨rfl, rfl, rfl, rfl, rfl⟩ rfl rfl rfl rfl rfl (by kernel_rfl) Try.func7 sexprListsNest_closed
    (of_decide_eq_true (by kernel_rfl)) (by unfold Func.isWrapper; first | (rw [if_pos (by decide +kernel)]; kernel_rfl) | (rw [if_neg (by decide +kernel)]; exact ⟨rfl, rfl⟩))
    (fun os started H enc _ => sexprListsNest_lifted os started H enc)
end Go.Proofs.Ythlagieajgmefaa
end
