/- The text of a domain is the text of the expression that is read from it, and everything that is read is valid, for every input; the variables of the library stand as the program's text lays them. -/
import Derived.Test.YtkbiopblaggdoaaGreatDoorTHB
import Derived.Test.YtkbiopblaggdoaaGreatDoorT2HA
import Derived.Test.YtkbiopblaggdoaaGreatDoorCards
import Derived.Test.YtkbiopblaggdoaaGreatDoorTie
import Derived.Test.YtkbiopblaggdoaaGreatDoorRows
set_option linter.unusedVariables false
set_option linter.unusedSimpArgs false
namespace Go.Proofs.YtkbiopblaggdoaaGreatDoor
open Hm
set_option maxRecDepth 100000
theorem own : ownKnob Tryz.prog.godebug = none := by kernel_rfl
theorem laid : laidOutB Tryz.prog = true := by kernel_rfl
theorem domainTextsAreExpressions_in (H : Type) (ds : List (DataW H)) (hl : ds.length = 2) (h : ∀ (j : Nat) t d, [29, 9][j]? = some t → ds[j]? = some d → ∃ n, wt Tryz.prog n t d) : Fc Tryz.prog 5 (ds.map dv) (.bool true) := by
  match ds, hl with
  | [d0, d1], _ =>
    obtain ⟨_, h0⟩ := h 0 _ d0 rfl rfl
    obtain ⟨_, h1⟩ := h 1 _ d1 rfl rfl
    obtain ⟨x0, e0, p0⟩ := in_Dom h0
    obtain ⟨x1, e1, p1⟩ := in_str h1
    simp only [List.map_cons, List.map_nil, e0, e1]
    exact f_L1_DomainTextsAreExpressions x0 p0 x1 (by omega)
theorem domainTextsAreExpressions_lifted (os : Os) (started : os.Started) (H : Type) (enc : TypeId × Value → H) :
    ReturnsInHanded {} Tryz.checked os 5 .any (fun w args => (Rows.domainTextsAreExpressionsSpec.pre enc Tryz.prog Tryz.f5 [] false w args ∧ laidMetH Tryz.prog laidL w) ∧ sizedMet enc Tryz.prog Tryz.f5 (OpenSpec.ofChange Rows.domainTextsAreExpressionsSpec) false w args) (Rows.domainTextsAreExpressionsSpec.post enc Tryz.prog Tryz.f5 false true false false) :=
  law_liftL (C := Tryz.checked) (n := 12) (tb := 4) rfl own started (by kernel_rfl) Tryz.func5
    (ChangeSpec.witness_shaped (enc := enc) (C := Tryz.checked) (os := os) (X := fun w _ => laidMetH Tryz.prog laidL w) false (World.doorLaid Tryz.prog 62 os) #[.agg #[.slice none 0 0, .slice none 0 0, .slice none 0 0, .slice none 0 0, .slice none 0 0, .slice none 0 0], .string ⟨#[]⟩] 8 rfl (World.shaped_of_RefB (by kernel_rfl) (by kernel_rfl)) (by kernel_rfl) (by kernel_rfl) (by kernel_rfl) (door_met os _))
    rfl (fun ds hl => match ds, hl with
      | [_, _], _ => ⟨rfl, rfl, rfl⟩) laid (by kernel_rfl) (by kernel_rfl) (by kernel_rfl) Tryz.underlying4 (fun ds hl h => domainTextsAreExpressions_in H ds hl h)
theorem domainTextsAreExpressions_closed : joinedFacts Tryz.checked.prog 5 Tryz.f5 Rows.domainTextsAreExpressionsSpec Rows.domainTextsAreExpressionsRow = true := by kernel_rfl
theorem domainTextsAreExpressions_row : Rows.DomainTextsAreExpressionsSaid :=
  OpenClaim.holds_of_wide 5 Tryz.f5 rfl rfl rfl rfl rfl rfl rfl ⟨rfl, rfl, rfl, rfl, rfl⟩ rfl rfl rfl rfl rfl (by kernel_rfl) Tryz.func5 domainTextsAreExpressions_closed
    (of_decide_eq_true (by kernel_rfl)) (by unfold Func.isWrapper; first | (rw [if_pos (by decide +kernel)]; kernel_rfl) | (rw [if_neg (by decide +kernel)]; exact ⟨rfl, rfl⟩))
    (fun os started H enc _ => domainTextsAreExpressions_lifted os started H enc)
theorem domainTextsAreExpressions_holds : Rows.DomainTextsAreExpressionsCardSaid :=
  Claim7.holds_tied_plain_at .later [] [.data, .data, .data, .sentinel, .sentinel] true Rows.domainTextsAreExpressionsCard.stood.harness true
    domainTextsAreExpressions_row (fun _ h => by cases h) (by kernel_rfl) (fun _ h => by cases h) domainTextsAreExpressions_row_tie rfl ⟨rfl, rfl⟩ (by kernel_rfl) rfl
    (fun f fn hf hfn => by
      obtain rfl : f = 5 := (Option.some.inj ((show Tryz.prog.funcNamed Rows.domainTextsAreExpressionsRow.func = some 5 by kernel_rfl).symm.trans hf)).symm
      obtain rfl : fn = Tryz.f5 := (Option.some.inj (Tryz.func5.symm.trans hfn)).symm
      exact ⟨by kernel_rfl, fun j t ht => no_stand (by kernel_rfl) ht⟩)
    (by kernel_rfl)
end Go.Proofs.YtkbiopblaggdoaaGreatDoor
