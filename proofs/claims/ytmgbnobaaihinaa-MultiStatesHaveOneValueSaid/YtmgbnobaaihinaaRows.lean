/-
  No cell of these rows narrows 'for every input' (looked for: loops, veiled, ifaces, maps, wideKeys, modest, calm, conditions, laid).
  DERIVED. THE GIVEN ROWS OF THIS SEAT. 5 by the template 'for every input the law returns true; each argument reads behind the call as it read before'; 0 by the template 'total and deterministic' (their statements: YtmgbnobaaihinaaTotals.lean).
  GIVEN WITH THE SEED: the statements are not yours to turn. If you find one false, say at which input.
  Laid BY PROGRAM, IN A SANDBOX (cutbox-rows.mjs): the forced cells as the released guide's own fill.sh prints them over the translation 08b79d20b4d3ecd9… (all of the seat's roots in one cut). By AI agents, Wed Nov 11 2026. No macro, syntax, notation, axiom, sorry.
-/
import Derived.Test.YtmgbnobaaihinaaChecked
import GoSem.Claim
import GoSem.ClaimJoined
import GoSem.ClaimMapViews
import Derived.JoinedTies
import Derived.KernelRfl
namespace Go.Proofs.Ytmgbnobaaihinaa
/- THE CELL 'sum', in the pinned program and in every row, IS THE sha256 OF THE DUMP (.gsa) THAT YtmgbnobaaihinaaProg.lean LOADS. Nothing in Lean hashes anything: it is a label: what it is worth is what the hold of that sum in a sandbox is worth. -/
noncomputable def Try.pinned : Pinned := { name := "ytmgbnobaaihinaa", sum := "08b79d20b4d3ecd968b8f1b845c6cd67b2a56b48c8d91401affc0628ec66c6e6", checked := Try.checked }
namespace Rows
def none {H : Type} : Left H := { results := [], args := [] }

/-- 'helmsmanlaw1.MultiMatchesSpec': WHATEVER THE INPUT: true; the input reads as it did. -/
def multiMatchesSpecSpec : ChangeSpec := { name := "multiMatchesSpec", fn := fun _ => fun
  | [d1, d2, d3] => { results := [.lit (.bool true)], args := [d1, d2, d3] }
  | _ => none }
def multiMatchesSpecRow : OpenClaim := { program := "ytmgbnobaaihinaa", sum := "08b79d20b4d3ecd968b8f1b845c6cd67b2a56b48c8d91401affc0628ec66c6e6", func := "helmsman/helmsmanlaw1.MultiMatchesSpec", spec := "multiMatchesSpec", unfollowed := true, recurses := true, apart := false }
def MultiMatchesSpecSaid : Prop := multiMatchesSpecRow.holds Try.pinned (OpenSpec.ofChange multiMatchesSpecSpec)

/-- ITS FALSE NEIGHBOUR: 'it returns false'. Refute it at one input. -/
def multiMatchesSpecWrong : ChangeSpec := { name := "multiMatchesSpec", fn := fun _ => fun
  | [d1, d2, d3] => { results := [.lit (.bool false)], args := [d1, d2, d3] }
  | _ => none }
def MultiMatchesSpecWrongFalsely : Prop := multiMatchesSpecRow.holds Try.pinned (OpenSpec.ofChange multiMatchesSpecWrong)

/-- 'helmsmanlaw1.MultiPlansMatchSpec': WHATEVER THE INPUT: true; the input reads as it did. -/
def multiPlansMatchSpecSpec : ChangeSpec := { name := "multiPlansMatchSpec", fn := fun _ => fun
  | [d1, d2] => { results := [.lit (.bool true)], args := [d1, d2] }
  | _ => none }
def multiPlansMatchSpecRow : OpenClaim := { program := "ytmgbnobaaihinaa", sum := "08b79d20b4d3ecd968b8f1b845c6cd67b2a56b48c8d91401affc0628ec66c6e6", func := "helmsman/helmsmanlaw1.MultiPlansMatchSpec", spec := "multiPlansMatchSpec", unfollowed := true, recurses := true, apart := false }
def MultiPlansMatchSpecSaid : Prop := multiPlansMatchSpecRow.holds Try.pinned (OpenSpec.ofChange multiPlansMatchSpecSpec)

/-- ITS FALSE NEIGHBOUR: 'it returns false'. Refute it at one input. -/
def multiPlansMatchSpecWrong : ChangeSpec := { name := "multiPlansMatchSpec", fn := fun _ => fun
  | [d1, d2] => { results := [.lit (.bool false)], args := [d1, d2] }
  | _ => none }
def MultiPlansMatchSpecWrongFalsely : Prop := multiPlansMatchSpecRow.holds Try.pinned (OpenSpec.ofChange multiPlansMatchSpecWrong)

/-- 'helmsmanlaw1.MultiStripsMatchesSpec': WHATEVER THE INPUT: true; the input reads as it did. -/
def multiStripsMatchesSpecSpec : ChangeSpec := { name := "multiStripsMatchesSpec", fn := fun _ => fun
  | [d] => { results := [.lit (.bool true)], args := [d] }
  | _ => none }
def multiStripsMatchesSpecRow : OpenClaim := { program := "ytmgbnobaaihinaa", sum := "08b79d20b4d3ecd968b8f1b845c6cd67b2a56b48c8d91401affc0628ec66c6e6", func := "helmsman/helmsmanlaw1.MultiStripsMatchesSpec", spec := "multiStripsMatchesSpec", unfollowed := true, recurses := true, apart := false }
def MultiStripsMatchesSpecSaid : Prop := multiStripsMatchesSpecRow.holds Try.pinned (OpenSpec.ofChange multiStripsMatchesSpecSpec)

/-- ITS FALSE NEIGHBOUR: 'it returns false'. Refute it at one input. -/
def multiStripsMatchesSpecWrong : ChangeSpec := { name := "multiStripsMatchesSpec", fn := fun _ => fun
  | [d] => { results := [.lit (.bool false)], args := [d] }
  | _ => none }
def MultiStripsMatchesSpecWrongFalsely : Prop := multiStripsMatchesSpecRow.holds Try.pinned (OpenSpec.ofChange multiStripsMatchesSpecWrong)

/-- 'helmsmanlaw1.MultiStatesHaveOneValue': WHATEVER THE INPUT: true; the input reads as it did. -/
def multiStatesHaveOneValueSpec : ChangeSpec := { name := "multiStatesHaveOneValue", fn := fun _ => fun
  | [d1, d2] => { results := [.lit (.bool true)], args := [d1, d2] }
  | _ => none }
def multiStatesHaveOneValueRow : OpenClaim := { program := "ytmgbnobaaihinaa", sum := "08b79d20b4d3ecd968b8f1b845c6cd67b2a56b48c8d91401affc0628ec66c6e6", func := "helmsman/helmsmanlaw1.MultiStatesHaveOneValue", spec := "multiStatesHaveOneValue", unfollowed := true, recurses := true, apart := false }
def MultiStatesHaveOneValueSaid : Prop := multiStatesHaveOneValueRow.holds Try.pinned (OpenSpec.ofChange multiStatesHaveOneValueSpec)

/-- ITS FALSE NEIGHBOUR: 'it returns false'. Refute it at one input. -/
def multiStatesHaveOneValueWrong : ChangeSpec := { name := "multiStatesHaveOneValue", fn := fun _ => fun
  | [d1, d2] => { results := [.lit (.bool false)], args := [d1, d2] }
  | _ => none }
def MultiStatesHaveOneValueWrongFalsely : Prop := multiStatesHaveOneValueRow.holds Try.pinned (OpenSpec.ofChange multiStatesHaveOneValueWrong)

/-- 'helmsmanlaw1.MultiStripsHasTheSamePlans': WHATEVER THE INPUT: true; the input reads as it did. -/
def multiStripsHasTheSamePlansSpec : ChangeSpec := { name := "multiStripsHasTheSamePlans", fn := fun _ => fun
  | [d1, d2] => { results := [.lit (.bool true)], args := [d1, d2] }
  | _ => none }
def multiStripsHasTheSamePlansRow : OpenClaim := { program := "ytmgbnobaaihinaa", sum := "08b79d20b4d3ecd968b8f1b845c6cd67b2a56b48c8d91401affc0628ec66c6e6", func := "helmsman/helmsmanlaw1.MultiStripsHasTheSamePlans", spec := "multiStripsHasTheSamePlans", unfollowed := true, recurses := true, apart := false }
def MultiStripsHasTheSamePlansSaid : Prop := multiStripsHasTheSamePlansRow.holds Try.pinned (OpenSpec.ofChange multiStripsHasTheSamePlansSpec)

/-- ITS FALSE NEIGHBOUR: 'it returns false'. Refute it at one input. -/
def multiStripsHasTheSamePlansWrong : ChangeSpec := { name := "multiStripsHasTheSamePlans", fn := fun _ => fun
  | [d1, d2] => { results := [.lit (.bool false)], args := [d1, d2] }
  | _ => none }
def MultiStripsHasTheSamePlansWrongFalsely : Prop := multiStripsHasTheSamePlansRow.holds Try.pinned (OpenSpec.ofChange multiStripsHasTheSamePlansWrong)

/- THE SECOND FORM. 'bulk': how many values and letters a reading holds, each counted each time it is reached (what is shared counts as often as it is met; a slice's spare places count too). A statement '..UptoSaid' is the law's where the arguments, and the package variables that the reading takes, are together of bulk at most 1048576: NARROWER than '..Said'. Prove '..Said' where nothing that the law and all that it calls make is longer than what came in: it says more and counts as full. Else prove '..UptoSaid'. A law counts once. -/
mutual
def uptoBulk {H : Type} : DataW H → Nat
  | .lit (.string bytes) => bytes.length + 1
  | .lit _ => 1
  | .nil => 1
  | .ptr d => uptoBulk d + 1
  | .slice elems spare => uptoBulkAll elems + uptoBulkAll spare + 1
  | .agg parts => uptoBulkAll parts + 1
  | .iface _ d => uptoBulk d + 1
  | .map entries => uptoBulkEntries entries + 1
  | .held _ => 1
def uptoBulkAll {H : Type} : List (DataW H) → Nat
  | [] => 0
  | d :: r => uptoBulk d + uptoBulkAll r
def uptoBulkEntries {H : Type} : List (Lit × DataW H) → Nat
  | [] => 0
  | x :: r => uptoBulkEntry x + uptoBulkEntries r
def uptoBulkEntry {H : Type} : Lit × DataW H → Nat
  | (.string bytes, d) => bytes.length + uptoBulk d + 1
  | (_, d) => uptoBulk d + 1
 end
def uptoSmall : (H : Type) → List (DataW H) → Bool := fun _ ds => decide (uptoBulkAll ds ≤ 1048576)
def OpenSpec.upto (s : _root_.Go.ChangeSpec) : _root_.Go.OpenSpec := { _root_.Go.OpenSpec.ofChange s with cond := some uptoSmall }

/-- 'helmsmanlaw1.MultiMatchesSpec', WHERE WHAT IT READS IS OF BULK AT MOST 1048576: true; the input reads as it did. -/
def multiMatchesSpecUptoRow : OpenClaim := { program := "ytmgbnobaaihinaa", sum := "08b79d20b4d3ecd968b8f1b845c6cd67b2a56b48c8d91401affc0628ec66c6e6", func := "helmsman/helmsmanlaw1.MultiMatchesSpec", spec := "multiMatchesSpec", unfollowed := true, recurses := true, apart := false, narrowed := true }
def MultiMatchesSpecUptoSaid : Prop := multiMatchesSpecUptoRow.holds Try.pinned (OpenSpec.upto multiMatchesSpecSpec)

/-- 'helmsmanlaw1.MultiPlansMatchSpec', WHERE WHAT IT READS IS OF BULK AT MOST 1048576: true; the input reads as it did. -/
def multiPlansMatchSpecUptoRow : OpenClaim := { program := "ytmgbnobaaihinaa", sum := "08b79d20b4d3ecd968b8f1b845c6cd67b2a56b48c8d91401affc0628ec66c6e6", func := "helmsman/helmsmanlaw1.MultiPlansMatchSpec", spec := "multiPlansMatchSpec", unfollowed := true, recurses := true, apart := false, narrowed := true }
def MultiPlansMatchSpecUptoSaid : Prop := multiPlansMatchSpecUptoRow.holds Try.pinned (OpenSpec.upto multiPlansMatchSpecSpec)

/-- 'helmsmanlaw1.MultiStripsMatchesSpec', WHERE WHAT IT READS IS OF BULK AT MOST 1048576: true; the input reads as it did. -/
def multiStripsMatchesSpecUptoRow : OpenClaim := { program := "ytmgbnobaaihinaa", sum := "08b79d20b4d3ecd968b8f1b845c6cd67b2a56b48c8d91401affc0628ec66c6e6", func := "helmsman/helmsmanlaw1.MultiStripsMatchesSpec", spec := "multiStripsMatchesSpec", unfollowed := true, recurses := true, apart := false, narrowed := true }
def MultiStripsMatchesSpecUptoSaid : Prop := multiStripsMatchesSpecUptoRow.holds Try.pinned (OpenSpec.upto multiStripsMatchesSpecSpec)

/-- 'helmsmanlaw1.MultiStatesHaveOneValue', WHERE WHAT IT READS IS OF BULK AT MOST 1048576: true; the input reads as it did. -/
def multiStatesHaveOneValueUptoRow : OpenClaim := { program := "ytmgbnobaaihinaa", sum := "08b79d20b4d3ecd968b8f1b845c6cd67b2a56b48c8d91401affc0628ec66c6e6", func := "helmsman/helmsmanlaw1.MultiStatesHaveOneValue", spec := "multiStatesHaveOneValue", unfollowed := true, recurses := true, apart := false, narrowed := true }
def MultiStatesHaveOneValueUptoSaid : Prop := multiStatesHaveOneValueUptoRow.holds Try.pinned (OpenSpec.upto multiStatesHaveOneValueSpec)

/-- 'helmsmanlaw1.MultiStripsHasTheSamePlans', WHERE WHAT IT READS IS OF BULK AT MOST 1048576: true; the input reads as it did. -/
def multiStripsHasTheSamePlansUptoRow : OpenClaim := { program := "ytmgbnobaaihinaa", sum := "08b79d20b4d3ecd968b8f1b845c6cd67b2a56b48c8d91401affc0628ec66c6e6", func := "helmsman/helmsmanlaw1.MultiStripsHasTheSamePlans", spec := "multiStripsHasTheSamePlans", unfollowed := true, recurses := true, apart := false, narrowed := true }
def MultiStripsHasTheSamePlansUptoSaid : Prop := multiStripsHasTheSamePlansUptoRow.holds Try.pinned (OpenSpec.upto multiStripsHasTheSamePlansSpec)

end Rows
end Go.Proofs.Ytmgbnobaaihinaa
