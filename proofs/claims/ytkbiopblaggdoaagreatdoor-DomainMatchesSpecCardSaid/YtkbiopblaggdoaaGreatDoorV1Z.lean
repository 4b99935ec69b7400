/- Validation and printing of domains, with all errors, are as specified, for every input; the variables of the library stand as the program's text lays them. -/
import Derived.Test.YtkbiopblaggdoaaGreatDoorVHB
import Derived.Test.YtkbiopblaggdoaaGreatDoorCards
import Derived.Test.YtkbiopblaggdoaaGreatDoorTie
import Derived.Test.YtkbiopblaggdoaaGreatDoorRows
set_option linter.unusedVariables false
set_option linter.unusedSimpArgs false
namespace Go.Proofs.YtkbiopblaggdoaaGreatDoor
open Hm
set_option maxRecDepth 100000
theorem own : ownKnob Tryz.prog.godebug = none := by kernel_rfl
theorem laid : laidOutB Tryz.prog = true := by kernel_rfl
theorem domainMatchesSpec_in (H : Type) (ds : List (DataW H)) (hl : ds.length = 1) (h : ∀ (j : Nat) t d, [29][j]? = some t → ds[j]? = some d → ∃ n, wt Tryz.prog n t d) : Fc Tryz.prog 3 (ds.map dv) (.bool true) := by
 match ds, hl with
 | [d0], _ =>
  obtain ⟨_, h0⟩ := h 0 _ d0 rfl rfl
  obtain ⟨x0, e0, p0⟩ := in_Dom h0
  simp only [List.map_cons, List.map_nil, e0]
  exact f_L1_DomainMatchesSpec x0 p0
theorem domainMatchesSpec_lifted (os : Os) (started : os.Started) (H : Type) (enc : TypeId × Value → H) :
  ReturnsInHanded {} Tryz.checked os 3 .any (fun w args => (Rows.domainMatchesSpecSpec.pre enc Tryz.prog Tryz.f3 [] false w args ∧ laidMetH Tryz.prog laidL w) ∧ sizedMet enc Tryz.prog Tryz.f3 (OpenSpec.ofChange Rows.domainMatchesSpecSpec) false w args) (Rows.domainMatchesSpecSpec.post enc Tryz.prog Tryz.f3 false true false false) :=
 law_liftL (C := Tryz.checked) (n := 12) (tb := 4) rfl own started (by kernel_rfl) Tryz.func3
  (ChangeSpec.witness_shaped (enc := enc) (C := Tryz.checked) (os := os) (X := fun w _ => laidMetH Tryz.prog laidL w) false (World.doorLaid Tryz.prog 62 os) #[.agg #[.slice none 0 0, .slice none 0 0, .slice none 0 0, .slice none 0 0, .slice none 0 0, .slice none 0 0]] 8 rfl (World.shaped_of_RefB (by kernel_rfl) (by kernel_rfl)) (by kernel_rfl) (by kernel_rfl) (by kernel_rfl) (door_met os _))
  rfl (fun ds hl => match ds, hl with
   | [_], _ => ⟨rfl, rfl, rfl⟩) laid (by kernel_rfl) (by kernel_rfl) (by kernel_rfl) Tryz.underlying4 (fun ds hl h => domainMatchesSpec_in H ds hl h)
theorem domainMatchesSpec_closed : joinedFacts Tryz.checked.prog 3 Tryz.f3 Rows.domainMatchesSpecSpec Rows.domainMatchesSpecRow = true := by kernel_rfl
theorem domainMatchesSpec_row : Rows.DomainMatchesSpecSaid :=
 OpenClaim.holds_of_wide 3 Tryz.f3 rfl rfl rfl rfl rfl rfl rfl ⟨rfl, rfl, rfl, rfl, rfl⟩ rfl rfl rfl rfl rfl (by kernel_rfl) Tryz.func3 domainMatchesSpec_closed
  (of_decide_eq_true (by kernel_rfl)) (by unfold Func.isWrapper; first | (rw [if_pos (by decide +kernel)]; kernel_rfl) | (rw [if_neg (by decide +kernel)]; exact ⟨rfl, rfl⟩))
  (fun os started H enc _ => domainMatchesSpec_lifted os started H enc)
theorem domainMatchesSpec_holds : Rows.DomainMatchesSpecCardSaid :=
 Claim7.holds_tied_plain_at .later [] [.data, .data, .data, .sentinel, .sentinel] true Rows.domainMatchesSpecCard.stood.harness true
  domainMatchesSpec_row (fun _ h => by cases h) (by kernel_rfl) (fun _ h => by cases h) domainMatchesSpec_row_tie rfl ⟨rfl, rfl⟩ (by kernel_rfl) rfl
  (fun f fn hf hfn => by
    obtain rfl : f = 3 := (Option.some.inj ((show Tryz.prog.funcNamed Rows.domainMatchesSpecRow.func = some 3 by kernel_rfl).symm.trans hf)).symm
    obtain rfl : fn = Tryz.f3 := (Option.some.inj (Tryz.func3.symm.trans hfn)).symm
    exact ⟨by kernel_rfl, fun j t ht => no_stand (by kernel_rfl) ht⟩)
  (by kernel_rfl)
end Go.Proofs.YtkbiopblaggdoaaGreatDoor
