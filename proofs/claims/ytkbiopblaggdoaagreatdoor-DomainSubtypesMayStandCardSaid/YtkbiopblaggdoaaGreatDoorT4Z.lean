/- An argument may be replaced by one of a subtype, and the atom remains valid, for every input; the variables of the library stand as the program's text lays them. -/
import Derived.Test.YtkbiopblaggdoaaGreatDoorTHB
import Derived.Test.YtkbiopblaggdoaaGreatDoorT4HA
import Derived.Test.YtkbiopblaggdoaaGreatDoorCards
import Derived.Test.YtkbiopblaggdoaaGreatDoorTie
import Derived.Test.YtkbiopblaggdoaaGreatDoorRows
set_option linter.unusedVariables false
set_option linter.unusedSimpArgs false
namespace Go.Proofs.YtkbiopblaggdoaaGreatDoor
open Hm
set_option maxRecDepth 100000
theorem own : ownKnob Tryz.prog.godebug = none := by kernel_rfl
theorem laid : laidOutB Tryz.prog = true := by kernel_rfl
theorem domainSubtypesMayStand_in (H : Type) (ds : List (DataW H)) (hl : ds.length = 4) (h : ∀ (j : Nat) t d, [29, 3, 3, 3][j]? = some t → ds[j]? = some d → ∃ n, wt Tryz.prog n t d) : Fc Tryz.prog 6 (ds.map dv) (.bool true) := by
  match ds, hl with
  | [d0, d1, d2, d3], _ =>
    obtain ⟨_, h0⟩ := h 0 _ d0 rfl rfl
    obtain ⟨_, h1⟩ := h 1 _ d1 rfl rfl
    obtain ⟨_, h2⟩ := h 2 _ d2 rfl rfl
    obtain ⟨_, h3⟩ := h 3 _ d3 rfl rfl
    obtain ⟨x0, e0, p0⟩ := in_Dom h0
    obtain ⟨x1, e1, p1⟩ := in_int h1
    obtain ⟨x2, e2, p2⟩ := in_int h2
    obtain ⟨x3, e3, p3⟩ := in_int h3
    simp only [List.map_cons, List.map_nil, e0, e1, e2, e3]
    exact f_L1_DomainSubtypesMayStand x0 p0 x1 x2 x3
theorem domainSubtypesMayStand_lifted (os : Os) (started : os.Started) (H : Type) (enc : TypeId × Value → H) :
    ReturnsInHanded {} Tryz.checked os 6 .any (fun w args => (Rows.domainSubtypesMayStandSpec.pre enc Tryz.prog Tryz.f6 [] false w args ∧ laidMetH Tryz.prog laidL w) ∧ sizedMet enc Tryz.prog Tryz.f6 (OpenSpec.ofChange Rows.domainSubtypesMayStandSpec) false w args) (Rows.domainSubtypesMayStandSpec.post enc Tryz.prog Tryz.f6 false true false false) :=
  law_liftL (C := Tryz.checked) (n := 12) (tb := 4) rfl own started (by kernel_rfl) Tryz.func6
    (ChangeSpec.witness_shaped (enc := enc) (C := Tryz.checked) (os := os) (X := fun w _ => laidMetH Tryz.prog laidL w) false (World.doorLaid Tryz.prog 62 os) #[.agg #[.slice none 0 0, .slice none 0 0, .slice none 0 0, .slice none 0 0, .slice none 0 0, .slice none 0 0], .int .i64 0, .int .i64 0, .int .i64 0] 8 rfl (World.shaped_of_RefB (by kernel_rfl) (by kernel_rfl)) (by kernel_rfl) (by kernel_rfl) (by kernel_rfl) (door_met os _))
    rfl (fun ds hl => match ds, hl with
      | [_, _, _, _], _ => ⟨rfl, rfl, rfl⟩) laid (by kernel_rfl) (by kernel_rfl) (by kernel_rfl) Tryz.underlying4 (fun ds hl h => domainSubtypesMayStand_in H ds hl h)
theorem domainSubtypesMayStand_closed : joinedFacts Tryz.checked.prog 6 Tryz.f6 Rows.domainSubtypesMayStandSpec Rows.domainSubtypesMayStandRow = true := by kernel_rfl
theorem domainSubtypesMayStand_row : Rows.DomainSubtypesMayStandSaid :=
  OpenClaim.holds_of_wide 6 Tryz.f6 rfl rfl rfl rfl rfl rfl rfl ⟨rfl, rfl, rfl, rfl, rfl⟩ rfl rfl rfl rfl rfl (by kernel_rfl) Tryz.func6 domainSubtypesMayStand_closed
    (of_decide_eq_true (by kernel_rfl)) (by unfold Func.isWrapper; first | (rw [if_pos (by decide +kernel)]; kernel_rfl) | (rw [if_neg (by decide +kernel)]; exact ⟨rfl, rfl⟩))
    (fun os started H enc _ => domainSubtypesMayStand_lifted os started H enc)
theorem domainSubtypesMayStand_holds : Rows.DomainSubtypesMayStandCardSaid :=
  Claim7.holds_tied_plain_at .later [] [.data, .data, .data, .sentinel, .sentinel] true Rows.domainSubtypesMayStandCard.stood.harness true
    domainSubtypesMayStand_row (fun _ h => by cases h) (by kernel_rfl) (fun _ h => by cases h) domainSubtypesMayStand_row_tie rfl ⟨rfl, rfl⟩ (by kernel_rfl) rfl
    (fun f fn hf hfn => by
      obtain rfl : f = 6 := (Option.some.inj ((show Tryz.prog.funcNamed Rows.domainSubtypesMayStandRow.func = some 6 by kernel_rfl).symm.trans hf)).symm
      obtain rfl : fn = Tryz.f6 := (Option.some.inj (Tryz.func6.symm.trans hfn)).symm
      exact ⟨by kernel_rfl, fun j t ht => no_stand (by kernel_rfl) ht⟩)
    (by kernel_rfl)
end Go.Proofs.YtkbiopblaggdoaaGreatDoor
