/- The statement on more facts, for every input. -/
import Derived.Test.YtjkpijodocopmaaStJ
import Derived.Test.YtjkpijodocopmaaRows
import Derived.Test.YtjkpijodocopmaaStC
section
/- The statement on more facts, for every input. -/
namespace Go.Proofs.Ytjkpijodocopmaa
open Hm
set_option maxRecDepth 100000
theorem own : ownKnob Try.prog.godebug = none := by kernel_rfl
theorem laid : laidOutB Try.prog = true := by kernel_rfl
theorem stripsMoreFactsKeepPlans_in (H : Type) (ds : List (DataW H)) (hl : ds.length = 4) (h : ∀ (j : Nat) t d, [25, 22, 22, 22][j]? = some t → ds[j]? = some d → ∃ n, wt Try.prog n t d) : Fc Try.prog 8 (ds.map dv) (.bool true) := by
  match ds, hl with
  | [d0, d1, d2, d3], _ =>
    obtain ⟨_, h0⟩ := h 0 _ d0 rfl rfl
    obtain ⟨_, h1⟩ := h 1 _ d1 rfl rfl
    obtain ⟨_, h2⟩ := h 2 _ d2 rfl rfl
    obtain ⟨_, h3⟩ := h 3 _ d3 rfl rfl
    obtain ⟨x0, e0, p0⟩ := in_STask h0
    obtain ⟨x1, e1, p1⟩ := in_Ints h1
    obtain ⟨x2, e2, p2⟩ := in_Ints h2
    obtain ⟨x3, e3, p3⟩ := in_Ints h3
    simp only [List.map_cons, List.map_nil, e0, e1, e2, e3]
    exact f_L1_StripsMoreFactsKeepPlans x0 p0 x1 x2 x3 (by omega) (by omega) (by omega)
theorem stripsMoreFactsKeepPlans_lifted (os : Os) (started : os.Started) (H : Type) (enc : TypeId × Value → H) :
    ReturnsInHanded {} Try.checked os 8 .any (Rows.stripsMoreFactsKeepPlansSpec.pre6 enc Try.prog Try.f8 Rows.stripsMoreFactsKeepPlansRow.domain false) (Rows.stripsMoreFactsKeepPlansSpec.post enc Try.prog Try.f8 false true false false) :=
  law_lift (C := Try.checked) (n := 12) (tb := 4) own started (by kernel_rfl) Try.func8
    (ChangeSpec.witness6 (enc := enc) (C := Try.checked) false ⟨#[], #[.agg #[.int .i64 0, .slice none 0 0, .slice none 0 0, .slice none 0 0], .slice none 0 0, .slice none 0 0, .slice none 0 0], []⟩ 8 (by kernel_rfl) (by kernel_rfl) (by kernel_rfl) (by kernel_rfl))
    rfl (fun ds hl => match ds, hl with
      | [_, _, _, _], _ => ⟨rfl, rfl, rfl⟩) laid (by kernel_rfl) (by kernel_rfl) (by kernel_rfl) Try.underlying4 (fun ds hl h => stripsMoreFactsKeepPlans_in H ds hl h)
theorem stripsMoreFactsKeepPlans_closed : joinedFacts Try.checked.prog 8 Try.f8 Rows.stripsMoreFactsKeepPlansSpec Rows.stripsMoreFactsKeepPlansRow = true := by kernel_rfl
theorem stripsMoreFactsKeepPlans_holds : Rows.StripsMoreFactsKeepPlansSaid :=
  OpenClaim.holds_of_wide 8 Try.f8 rfl rfl rfl rfl rfl rfl rfl ⟨rfl, rfl, rfl, rfl, rfl⟩ rfl rfl rfl rfl rfl (by kernel_rfl) Try.func8 stripsMoreFactsKeepPlans_closed
    (of_decide_eq_true (by kernel_rfl)) (by unfold Func.isWrapper; first | (rw [if_pos (by decide +kernel)]; kernel_rfl) | (rw [if_neg (by decide +kernel)]; exact ⟨rfl, rfl⟩))
    (fun os started H enc _ => stripsMoreFactsKeepPlans_lifted os started H enc)
end Go.Proofs.Ytjkpijodocopmaa
end
