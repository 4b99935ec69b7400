/-
  No cell of these rows narrows 'for every input' (looked for: loops, veiled, ifaces, maps, wideKeys, modest, calm, conditions, laid).
  DERIVED. THE GIVEN ROWS OF THIS SEAT. 16 by the template 'for every input the law returns true; each argument reads behind the call as it read before'; 0 by the template 'total and deterministic' (their statements: YtnediihfgmigiaaTotals.lean).
  GIVEN WITH THE SEED: the statements are not yours to turn. If you find one false, say at which input.
  Laid BY PROGRAM, IN A SANDBOX (cutbox-rows.mjs): the forced cells as the released guide's own fill.sh prints them over the translation 2654ff3d65773088… (all of the seat's roots in one cut). By AI agents, Wed Nov 11 2026. No macro, syntax, notation, axiom, sorry.
-/
import Derived.Test.YtnediihfgmigiaaChecked
import GoSem.Claim
import GoSem.ClaimJoined
import GoSem.ClaimMapViews
import Derived.JoinedTies
import Derived.KernelRfl
namespace Go.Proofs.Ytnediihfgmigiaa
/- THE CELL 'sum', in the pinned program and in every row, IS THE sha256 OF THE DUMP (.gsa) THAT YtnediihfgmigiaaProg.lean LOADS. Nothing in Lean hashes anything: it is a label: what it is worth is what the hold of that sum in a sandbox is worth. -/
noncomputable def Try.pinned : Pinned := { name := "ytnediihfgmigiaa", sum := "2654ff3d657730880d5d56024156f8c757a90afa7e3a9a5c593a88817f315db8", checked := Try.checked }
namespace Rows
def none {H : Type} : Left H := { results := [], args := [] }

/-- 'helmsmanlaw1.MultiMatchesSpec': WHATEVER THE INPUT: true; the input reads as it did. -/
def multiMatchesSpecSpec : ChangeSpec := { name := "multiMatchesSpec", fn := fun _ => fun
  | [d1, d2, d3] => { results := [.lit (.bool true)], args := [d1, d2, d3] }
  | _ => none }
def multiMatchesSpecRow : OpenClaim := { program := "ytnediihfgmigiaa", sum := "2654ff3d657730880d5d56024156f8c757a90afa7e3a9a5c593a88817f315db8", func := "helmsman/helmsmanlaw1.MultiMatchesSpec", spec := "multiMatchesSpec", unfollowed := true, recurses := true, apart := false }
def MultiMatchesSpecSaid : Prop := multiMatchesSpecRow.holds Try.pinned (OpenSpec.ofChange multiMatchesSpecSpec)

/-- ITS FALSE NEIGHBOUR: 'it returns false'. Refute it at one input. -/
def multiMatchesSpecWrong : ChangeSpec := { name := "multiMatchesSpec", fn := fun _ => fun
  | [d1, d2, d3] => { results := [.lit (.bool false)], args := [d1, d2, d3] }
  | _ => none }
def MultiMatchesSpecWrongFalsely : Prop := multiMatchesSpecRow.holds Try.pinned (OpenSpec.ofChange multiMatchesSpecWrong)

/-- 'helmsmanlaw1.MultiPlansMatchSpec': WHATEVER THE INPUT: true; the input reads as it did. -/
def multiPlansMatchSpecSpec : ChangeSpec := { name := "multiPlansMatchSpec", fn := fun _ => fun
  | [d1, d2] => { results := [.lit (.bool true)], args := [d1, d2] }
  | _ => none }
def multiPlansMatchSpecRow : OpenClaim := { program := "ytnediihfgmigiaa", sum := "2654ff3d657730880d5d56024156f8c757a90afa7e3a9a5c593a88817f315db8", func := "helmsman/helmsmanlaw1.MultiPlansMatchSpec", spec := "multiPlansMatchSpec", unfollowed := true, recurses := true, apart := false }
def MultiPlansMatchSpecSaid : Prop := multiPlansMatchSpecRow.holds Try.pinned (OpenSpec.ofChange multiPlansMatchSpecSpec)

/-- ITS FALSE NEIGHBOUR: 'it returns false'. Refute it at one input. -/
def multiPlansMatchSpecWrong : ChangeSpec := { name := "multiPlansMatchSpec", fn := fun _ => fun
  | [d1, d2] => { results := [.lit (.bool false)], args := [d1, d2] }
  | _ => none }
def MultiPlansMatchSpecWrongFalsely : Prop := multiPlansMatchSpecRow.holds Try.pinned (OpenSpec.ofChange multiPlansMatchSpecWrong)

/-- 'helmsmanlaw1.MultiStripsMatchesSpec': WHATEVER THE INPUT: true; the input reads as it did. -/
def multiStripsMatchesSpecSpec : ChangeSpec := { name := "multiStripsMatchesSpec", fn := fun _ => fun
  | [d] => { results := [.lit (.bool true)], args := [d] }
  | _ => none }
def multiStripsMatchesSpecRow : OpenClaim := { program := "ytnediihfgmigiaa", sum := "2654ff3d657730880d5d56024156f8c757a90afa7e3a9a5c593a88817f315db8", func := "helmsman/helmsmanlaw1.MultiStripsMatchesSpec", spec := "multiStripsMatchesSpec", unfollowed := true, recurses := true, apart := false }
def MultiStripsMatchesSpecSaid : Prop := multiStripsMatchesSpecRow.holds Try.pinned (OpenSpec.ofChange multiStripsMatchesSpecSpec)

/-- ITS FALSE NEIGHBOUR: 'it returns false'. Refute it at one input. -/
def multiStripsMatchesSpecWrong : ChangeSpec := { name := "multiStripsMatchesSpec", fn := fun _ => fun
  | [d] => { results := [.lit (.bool false)], args := [d] }
  | _ => none }
def MultiStripsMatchesSpecWrongFalsely : Prop := multiStripsMatchesSpecRow.holds Try.pinned (OpenSpec.ofChange multiStripsMatchesSpecWrong)

/-- 'helmsmanlaw1.PlansMatchSpec': WHATEVER THE INPUT: true; the input reads as it did. -/
def plansMatchSpecSpec : ChangeSpec := { name := "plansMatchSpec", fn := fun _ => fun
  | [d1, d2] => { results := [.lit (.bool true)], args := [d1, d2] }
  | _ => none }
def plansMatchSpecRow : OpenClaim := { program := "ytnediihfgmigiaa", sum := "2654ff3d657730880d5d56024156f8c757a90afa7e3a9a5c593a88817f315db8", func := "helmsman/helmsmanlaw1.PlansMatchSpec", spec := "plansMatchSpec", unfollowed := true, recurses := true, apart := false }
def PlansMatchSpecSaid : Prop := plansMatchSpecRow.holds Try.pinned (OpenSpec.ofChange plansMatchSpecSpec)

/-- ITS FALSE NEIGHBOUR: 'it returns false'. Refute it at one input. -/
def plansMatchSpecWrong : ChangeSpec := { name := "plansMatchSpec", fn := fun _ => fun
  | [d1, d2] => { results := [.lit (.bool false)], args := [d1, d2] }
  | _ => none }
def PlansMatchSpecWrongFalsely : Prop := plansMatchSpecRow.holds Try.pinned (OpenSpec.ofChange plansMatchSpecWrong)

/-- 'helmsmanlaw1.PlansMinimalMatchesSpec': WHATEVER THE INPUT: true; the input reads as it did. -/
def plansMinimalMatchesSpecSpec : ChangeSpec := { name := "plansMinimalMatchesSpec", fn := fun _ => fun
  | [d1, d2] => { results := [.lit (.bool true)], args := [d1, d2] }
  | _ => none }
def plansMinimalMatchesSpecRow : OpenClaim := { program := "ytnediihfgmigiaa", sum := "2654ff3d657730880d5d56024156f8c757a90afa7e3a9a5c593a88817f315db8", func := "helmsman/helmsmanlaw1.PlansMinimalMatchesSpec", spec := "plansMinimalMatchesSpec", unfollowed := true, recurses := true, apart := false }
def PlansMinimalMatchesSpecSaid : Prop := plansMinimalMatchesSpecRow.holds Try.pinned (OpenSpec.ofChange plansMinimalMatchesSpecSpec)

/-- ITS FALSE NEIGHBOUR: 'it returns false'. Refute it at one input. -/
def plansMinimalMatchesSpecWrong : ChangeSpec := { name := "plansMinimalMatchesSpec", fn := fun _ => fun
  | [d1, d2] => { results := [.lit (.bool false)], args := [d1, d2] }
  | _ => none }
def PlansMinimalMatchesSpecWrongFalsely : Prop := plansMinimalMatchesSpecRow.holds Try.pinned (OpenSpec.ofChange plansMinimalMatchesSpecWrong)

/-- 'helmsmanlaw1.PlansMinimalStayWhole': WHATEVER THE INPUT: true; the input reads as it did. -/
def plansMinimalStayWholeSpec : ChangeSpec := { name := "plansMinimalStayWhole", fn := fun _ => fun
  | [d1, d2, d3] => { results := [.lit (.bool true)], args := [d1, d2, d3] }
  | _ => none }
def plansMinimalStayWholeRow : OpenClaim := { program := "ytnediihfgmigiaa", sum := "2654ff3d657730880d5d56024156f8c757a90afa7e3a9a5c593a88817f315db8", func := "helmsman/helmsmanlaw1.PlansMinimalStayWhole", spec := "plansMinimalStayWhole", unfollowed := true, recurses := true, apart := false }
def PlansMinimalStayWholeSaid : Prop := plansMinimalStayWholeRow.holds Try.pinned (OpenSpec.ofChange plansMinimalStayWholeSpec)

/-- ITS FALSE NEIGHBOUR: 'it returns false'. Refute it at one input. -/
def plansMinimalStayWholeWrong : ChangeSpec := { name := "plansMinimalStayWhole", fn := fun _ => fun
  | [d1, d2, d3] => { results := [.lit (.bool false)], args := [d1, d2, d3] }
  | _ => none }
def PlansMinimalStayWholeWrongFalsely : Prop := plansMinimalStayWholeRow.holds Try.pinned (OpenSpec.ofChange plansMinimalStayWholeWrong)

/-- 'helmsmanlaw1.StripsMatchesSpec': WHATEVER THE INPUT: true; the input reads as it did. -/
def stripsMatchesSpecSpec : ChangeSpec := { name := "stripsMatchesSpec", fn := fun _ => fun
  | [d1, d2, d3] => { results := [.lit (.bool true)], args := [d1, d2, d3] }
  | _ => none }
def stripsMatchesSpecRow : OpenClaim := { program := "ytnediihfgmigiaa", sum := "2654ff3d657730880d5d56024156f8c757a90afa7e3a9a5c593a88817f315db8", func := "helmsman/helmsmanlaw1.StripsMatchesSpec", spec := "stripsMatchesSpec", unfollowed := true, recurses := true, apart := false }
def StripsMatchesSpecSaid : Prop := stripsMatchesSpecRow.holds Try.pinned (OpenSpec.ofChange stripsMatchesSpecSpec)

/-- ITS FALSE NEIGHBOUR: 'it returns false'. Refute it at one input. -/
def stripsMatchesSpecWrong : ChangeSpec := { name := "stripsMatchesSpec", fn := fun _ => fun
  | [d1, d2, d3] => { results := [.lit (.bool false)], args := [d1, d2, d3] }
  | _ => none }
def StripsMatchesSpecWrongFalsely : Prop := stripsMatchesSpecRow.holds Try.pinned (OpenSpec.ofChange stripsMatchesSpecWrong)

/-- 'helmsmanlaw1.StripsPlansMatchSpec': WHATEVER THE INPUT: true; the input reads as it did. -/
def stripsPlansMatchSpecSpec : ChangeSpec := { name := "stripsPlansMatchSpec", fn := fun _ => fun
  | [d1, d2, d3] => { results := [.lit (.bool true)], args := [d1, d2, d3] }
  | _ => none }
def stripsPlansMatchSpecRow : OpenClaim := { program := "ytnediihfgmigiaa", sum := "2654ff3d657730880d5d56024156f8c757a90afa7e3a9a5c593a88817f315db8", func := "helmsman/helmsmanlaw1.StripsPlansMatchSpec", spec := "stripsPlansMatchSpec", unfollowed := true, recurses := true, apart := false }
def StripsPlansMatchSpecSaid : Prop := stripsPlansMatchSpecRow.holds Try.pinned (OpenSpec.ofChange stripsPlansMatchSpecSpec)

/-- ITS FALSE NEIGHBOUR: 'it returns false'. Refute it at one input. -/
def stripsPlansMatchSpecWrong : ChangeSpec := { name := "stripsPlansMatchSpec", fn := fun _ => fun
  | [d1, d2, d3] => { results := [.lit (.bool false)], args := [d1, d2, d3] }
  | _ => none }
def StripsPlansMatchSpecWrongFalsely : Prop := stripsPlansMatchSpecRow.holds Try.pinned (OpenSpec.ofChange stripsPlansMatchSpecWrong)

/-- 'helmsmanlaw1.StripsFrame': WHATEVER THE INPUT: true; the input reads as it did. -/
def stripsFrameSpec : ChangeSpec := { name := "stripsFrame", fn := fun _ => fun
  | [d1, d2, d3] => { results := [.lit (.bool true)], args := [d1, d2, d3] }
  | _ => none }
def stripsFrameRow : OpenClaim := { program := "ytnediihfgmigiaa", sum := "2654ff3d657730880d5d56024156f8c757a90afa7e3a9a5c593a88817f315db8", func := "helmsman/helmsmanlaw1.StripsFrame", spec := "stripsFrame", unfollowed := true, recurses := true, apart := false }
def StripsFrameSaid : Prop := stripsFrameRow.holds Try.pinned (OpenSpec.ofChange stripsFrameSpec)

/-- ITS FALSE NEIGHBOUR: 'it returns false'. Refute it at one input. -/
def stripsFrameWrong : ChangeSpec := { name := "stripsFrame", fn := fun _ => fun
  | [d1, d2, d3] => { results := [.lit (.bool false)], args := [d1, d2, d3] }
  | _ => none }
def StripsFrameWrongFalsely : Prop := stripsFrameRow.holds Try.pinned (OpenSpec.ofChange stripsFrameWrong)

/-- 'helmsmanlaw1.StripsRegressionIsExact': WHATEVER THE INPUT: true; the input reads as it did. -/
def stripsRegressionIsExactSpec : ChangeSpec := { name := "stripsRegressionIsExact", fn := fun _ => fun
  | [d1, d2, d3, d4] => { results := [.lit (.bool true)], args := [d1, d2, d3, d4] }
  | _ => none }
def stripsRegressionIsExactRow : OpenClaim := { program := "ytnediihfgmigiaa", sum := "2654ff3d657730880d5d56024156f8c757a90afa7e3a9a5c593a88817f315db8", func := "helmsman/helmsmanlaw1.StripsRegressionIsExact", spec := "stripsRegressionIsExact", unfollowed := true, recurses := true, apart := false }
def StripsRegressionIsExactSaid : Prop := stripsRegressionIsExactRow.holds Try.pinned (OpenSpec.ofChange stripsRegressionIsExactSpec)

/-- ITS FALSE NEIGHBOUR: 'it returns false'. Refute it at one input. -/
def stripsRegressionIsExactWrong : ChangeSpec := { name := "stripsRegressionIsExact", fn := fun _ => fun
  | [d1, d2, d3, d4] => { results := [.lit (.bool false)], args := [d1, d2, d3, d4] }
  | _ => none }
def StripsRegressionIsExactWrongFalsely : Prop := stripsRegressionIsExactRow.holds Try.pinned (OpenSpec.ofChange stripsRegressionIsExactWrong)

/-- 'helmsmanlaw1.StripsPlansConcatenate': WHATEVER THE INPUT: true; the input reads as it did. -/
def stripsPlansConcatenateSpec : ChangeSpec := { name := "stripsPlansConcatenate", fn := fun _ => fun
  | [d1, d2, d3, d4] => { results := [.lit (.bool true)], args := [d1, d2, d3, d4] }
  | _ => none }
def stripsPlansConcatenateRow : OpenClaim := { program := "ytnediihfgmigiaa", sum := "2654ff3d657730880d5d56024156f8c757a90afa7e3a9a5c593a88817f315db8", func := "helmsman/helmsmanlaw1.StripsPlansConcatenate", spec := "stripsPlansConcatenate", unfollowed := true, recurses := true, apart := false }
def StripsPlansConcatenateSaid : Prop := stripsPlansConcatenateRow.holds Try.pinned (OpenSpec.ofChange stripsPlansConcatenateSpec)

/-- ITS FALSE NEIGHBOUR: 'it returns false'. Refute it at one input. -/
def stripsPlansConcatenateWrong : ChangeSpec := { name := "stripsPlansConcatenate", fn := fun _ => fun
  | [d1, d2, d3, d4] => { results := [.lit (.bool false)], args := [d1, d2, d3, d4] }
  | _ => none }
def StripsPlansConcatenateWrongFalsely : Prop := stripsPlansConcatenateRow.holds Try.pinned (OpenSpec.ofChange stripsPlansConcatenateWrong)

/-- 'helmsmanlaw1.StripsMoreFactsKeepPlans': WHATEVER THE INPUT: true; the input reads as it did. -/
def stripsMoreFactsKeepPlansSpec : ChangeSpec := { name := "stripsMoreFactsKeepPlans", fn := fun _ => fun
  | [d1, d2, d3, d4] => { results := [.lit (.bool true)], args := [d1, d2, d3, d4] }
  | _ => none }
def stripsMoreFactsKeepPlansRow : OpenClaim := { program := "ytnediihfgmigiaa", sum := "2654ff3d657730880d5d56024156f8c757a90afa7e3a9a5c593a88817f315db8", func := "helmsman/helmsmanlaw1.StripsMoreFactsKeepPlans", spec := "stripsMoreFactsKeepPlans", unfollowed := true, recurses := true, apart := false }
def StripsMoreFactsKeepPlansSaid : Prop := stripsMoreFactsKeepPlansRow.holds Try.pinned (OpenSpec.ofChange stripsMoreFactsKeepPlansSpec)

/-- ITS FALSE NEIGHBOUR: 'it returns false'. Refute it at one input. -/
def stripsMoreFactsKeepPlansWrong : ChangeSpec := { name := "stripsMoreFactsKeepPlans", fn := fun _ => fun
  | [d1, d2, d3, d4] => { results := [.lit (.bool false)], args := [d1, d2, d3, d4] }
  | _ => none }
def StripsMoreFactsKeepPlansWrongFalsely : Prop := stripsMoreFactsKeepPlansRow.holds Try.pinned (OpenSpec.ofChange stripsMoreFactsKeepPlansWrong)

/-- 'helmsmanlaw1.PlansReducedAreSolutions': WHATEVER THE INPUT: true; the input reads as it did. -/
def plansReducedAreSolutionsSpec : ChangeSpec := { name := "plansReducedAreSolutions", fn := fun _ => fun
  | [d1, d2] => { results := [.lit (.bool true)], args := [d1, d2] }
  | _ => none }
def plansReducedAreSolutionsRow : OpenClaim := { program := "ytnediihfgmigiaa", sum := "2654ff3d657730880d5d56024156f8c757a90afa7e3a9a5c593a88817f315db8", func := "helmsman/helmsmanlaw1.PlansReducedAreSolutions", spec := "plansReducedAreSolutions", unfollowed := true, recurses := true, apart := false }
def PlansReducedAreSolutionsSaid : Prop := plansReducedAreSolutionsRow.holds Try.pinned (OpenSpec.ofChange plansReducedAreSolutionsSpec)

/-- ITS FALSE NEIGHBOUR: 'it returns false'. Refute it at one input. -/
def plansReducedAreSolutionsWrong : ChangeSpec := { name := "plansReducedAreSolutions", fn := fun _ => fun
  | [d1, d2] => { results := [.lit (.bool false)], args := [d1, d2] }
  | _ => none }
def PlansReducedAreSolutionsWrongFalsely : Prop := plansReducedAreSolutionsRow.holds Try.pinned (OpenSpec.ofChange plansReducedAreSolutionsWrong)

/-- 'helmsmanlaw1.PlansFailuresAreReal': WHATEVER THE INPUT: true; the input reads as it did. -/
def plansFailuresAreRealSpec : ChangeSpec := { name := "plansFailuresAreReal", fn := fun _ => fun
  | [d1, d2] => { results := [.lit (.bool true)], args := [d1, d2] }
  | _ => none }
def plansFailuresAreRealRow : OpenClaim := { program := "ytnediihfgmigiaa", sum := "2654ff3d657730880d5d56024156f8c757a90afa7e3a9a5c593a88817f315db8", func := "helmsman/helmsmanlaw1.PlansFailuresAreReal", spec := "plansFailuresAreReal", unfollowed := true, recurses := true, apart := false }
def PlansFailuresAreRealSaid : Prop := plansFailuresAreRealRow.holds Try.pinned (OpenSpec.ofChange plansFailuresAreRealSpec)

/-- ITS FALSE NEIGHBOUR: 'it returns false'. Refute it at one input. -/
def plansFailuresAreRealWrong : ChangeSpec := { name := "plansFailuresAreReal", fn := fun _ => fun
  | [d1, d2] => { results := [.lit (.bool false)], args := [d1, d2] }
  | _ => none }
def PlansFailuresAreRealWrongFalsely : Prop := plansFailuresAreRealRow.holds Try.pinned (OpenSpec.ofChange plansFailuresAreRealWrong)

/-- 'helmsmanlaw1.MultiStatesHaveOneValue': WHATEVER THE INPUT: true; the input reads as it did. -/
def multiStatesHaveOneValueSpec : ChangeSpec := { name := "multiStatesHaveOneValue", fn := fun _ => fun
  | [d1, d2] => { results := [.lit (.bool true)], args := [d1, d2] }
  | _ => none }
def multiStatesHaveOneValueRow : OpenClaim := { program := "ytnediihfgmigiaa", sum := "2654ff3d657730880d5d56024156f8c757a90afa7e3a9a5c593a88817f315db8", func := "helmsman/helmsmanlaw1.MultiStatesHaveOneValue", spec := "multiStatesHaveOneValue", unfollowed := true, recurses := true, apart := false }
def MultiStatesHaveOneValueSaid : Prop := multiStatesHaveOneValueRow.holds Try.pinned (OpenSpec.ofChange multiStatesHaveOneValueSpec)

/-- ITS FALSE NEIGHBOUR: 'it returns false'. Refute it at one input. -/
def multiStatesHaveOneValueWrong : ChangeSpec := { name := "multiStatesHaveOneValue", fn := fun _ => fun
  | [d1, d2] => { results := [.lit (.bool false)], args := [d1, d2] }
  | _ => none }
def MultiStatesHaveOneValueWrongFalsely : Prop := multiStatesHaveOneValueRow.holds Try.pinned (OpenSpec.ofChange multiStatesHaveOneValueWrong)

/-- 'helmsmanlaw1.MultiStripsHasTheSamePlans': WHATEVER THE INPUT: true; the input reads as it did. -/
def multiStripsHasTheSamePlansSpec : ChangeSpec := { name := "multiStripsHasTheSamePlans", fn := fun _ => fun
  | [d1, d2] => { results := [.lit (.bool true)], args := [d1, d2] }
  | _ => none }
def multiStripsHasTheSamePlansRow : OpenClaim := { program := "ytnediihfgmigiaa", sum := "2654ff3d657730880d5d56024156f8c757a90afa7e3a9a5c593a88817f315db8", func := "helmsman/helmsmanlaw1.MultiStripsHasTheSamePlans", spec := "multiStripsHasTheSamePlans", unfollowed := true, recurses := true, apart := false }
def MultiStripsHasTheSamePlansSaid : Prop := multiStripsHasTheSamePlansRow.holds Try.pinned (OpenSpec.ofChange multiStripsHasTheSamePlansSpec)

/-- ITS FALSE NEIGHBOUR: 'it returns false'. Refute it at one input. -/
def multiStripsHasTheSamePlansWrong : ChangeSpec := { name := "multiStripsHasTheSamePlans", fn := fun _ => fun
  | [d1, d2] => { results := [.lit (.bool false)], args := [d1, d2] }
  | _ => none }
def MultiStripsHasTheSamePlansWrongFalsely : Prop := multiStripsHasTheSamePlansRow.holds Try.pinned (OpenSpec.ofChange multiStripsHasTheSamePlansWrong)

/- THE SECOND FORM. 'bulk': how many values and letters a reading holds, each counted each time it is reached (what is shared counts as often as it is met; a slice's spare places count too). A statement '..UptoSaid' is the law's where the arguments, and the package variables that the reading takes, are together of bulk at most 1048576: NARROWER than '..Said'. Prove '..Said' where nothing that the law and all that it calls make is longer than what came in: it says more and counts as full. Else prove '..UptoSaid'. A law counts once. -/
mutual
def uptoBulk {H : Type} : DataW H → Nat
  | .lit (.string bytes) => bytes.length + 1
  | .lit _ => 1
  | .nil => 1
  | .ptr d => uptoBulk d + 1
  | .slice elems spare => uptoBulkAll elems + uptoBulkAll spare + 1
  | .agg parts => uptoBulkAll parts + 1
  | .iface _ d => uptoBulk d + 1
  | .map entries => uptoBulkEntries entries + 1
  | .held _ => 1
def uptoBulkAll {H : Type} : List (DataW H) → Nat
  | [] => 0
  | d :: r => uptoBulk d + uptoBulkAll r
def uptoBulkEntries {H : Type} : List (Lit × DataW H) → Nat
  | [] => 0
  | x :: r => uptoBulkEntry x + uptoBulkEntries r
def uptoBulkEntry {H : Type} : Lit × DataW H → Nat
  | (.string bytes, d) => bytes.length + uptoBulk d + 1
  | (_, d) => uptoBulk d + 1
 end
def uptoSmall : (H : Type) → List (DataW H) → Bool := fun _ ds => decide (uptoBulkAll ds ≤ 1048576)
def OpenSpec.upto (s : _root_.Go.ChangeSpec) : _root_.Go.OpenSpec := { _root_.Go.OpenSpec.ofChange s with cond := some uptoSmall }

/-- 'helmsmanlaw1.MultiMatchesSpec', WHERE WHAT IT READS IS OF BULK AT MOST 1048576: true; the input reads as it did. -/
def multiMatchesSpecUptoRow : OpenClaim := { program := "ytnediihfgmigiaa", sum := "2654ff3d657730880d5d56024156f8c757a90afa7e3a9a5c593a88817f315db8", func := "helmsman/helmsmanlaw1.MultiMatchesSpec", spec := "multiMatchesSpec", unfollowed := true, recurses := true, apart := false, narrowed := true }
def MultiMatchesSpecUptoSaid : Prop := multiMatchesSpecUptoRow.holds Try.pinned (OpenSpec.upto multiMatchesSpecSpec)

/-- 'helmsmanlaw1.MultiPlansMatchSpec', WHERE WHAT IT READS IS OF BULK AT MOST 1048576: true; the input reads as it did. -/
def multiPlansMatchSpecUptoRow : OpenClaim := { program := "ytnediihfgmigiaa", sum := "2654ff3d657730880d5d56024156f8c757a90afa7e3a9a5c593a88817f315db8", func := "helmsman/helmsmanlaw1.MultiPlansMatchSpec", spec := "multiPlansMatchSpec", unfollowed := true, recurses := true, apart := false, narrowed := true }
def MultiPlansMatchSpecUptoSaid : Prop := multiPlansMatchSpecUptoRow.holds Try.pinned (OpenSpec.upto multiPlansMatchSpecSpec)

/-- 'helmsmanlaw1.MultiStripsMatchesSpec', WHERE WHAT IT READS IS OF BULK AT MOST 1048576: true; the input reads as it did. -/
def multiStripsMatchesSpecUptoRow : OpenClaim := { program := "ytnediihfgmigiaa", sum := "2654ff3d657730880d5d56024156f8c757a90afa7e3a9a5c593a88817f315db8", func := "helmsman/helmsmanlaw1.MultiStripsMatchesSpec", spec := "multiStripsMatchesSpec", unfollowed := true, recurses := true, apart := false, narrowed := true }
def MultiStripsMatchesSpecUptoSaid : Prop := multiStripsMatchesSpecUptoRow.holds Try.pinned (OpenSpec.upto multiStripsMatchesSpecSpec)

/-- 'helmsmanlaw1.PlansMatchSpec', WHERE WHAT IT READS IS OF BULK AT MOST 1048576: true; the input reads as it did. -/
def plansMatchSpecUptoRow : OpenClaim := { program := "ytnediihfgmigiaa", sum := "2654ff3d657730880d5d56024156f8c757a90afa7e3a9a5c593a88817f315db8", func := "helmsman/helmsmanlaw1.PlansMatchSpec", spec := "plansMatchSpec", unfollowed := true, recurses := true, apart := false, narrowed := true }
def PlansMatchSpecUptoSaid : Prop := plansMatchSpecUptoRow.holds Try.pinned (OpenSpec.upto plansMatchSpecSpec)

/-- 'helmsmanlaw1.PlansMinimalMatchesSpec', WHERE WHAT IT READS IS OF BULK AT MOST 1048576: true; the input reads as it did. -/
def plansMinimalMatchesSpecUptoRow : OpenClaim := { program := "ytnediihfgmigiaa", sum := "2654ff3d657730880d5d56024156f8c757a90afa7e3a9a5c593a88817f315db8", func := "helmsman/helmsmanlaw1.PlansMinimalMatchesSpec", spec := "plansMinimalMatchesSpec", unfollowed := true, recurses := true, apart := false, narrowed := true }
def PlansMinimalMatchesSpecUptoSaid : Prop := plansMinimalMatchesSpecUptoRow.holds Try.pinned (OpenSpec.upto plansMinimalMatchesSpecSpec)

/-- 'helmsmanlaw1.PlansMinimalStayWhole', WHERE WHAT IT READS IS OF BULK AT MOST 1048576: true; the input reads as it did. -/
def plansMinimalStayWholeUptoRow : OpenClaim := { program := "ytnediihfgmigiaa", sum := "2654ff3d657730880d5d56024156f8c757a90afa7e3a9a5c593a88817f315db8", func := "helmsman/helmsmanlaw1.PlansMinimalStayWhole", spec := "plansMinimalStayWhole", unfollowed := true, recurses := true, apart := false, narrowed := true }
def PlansMinimalStayWholeUptoSaid : Prop := plansMinimalStayWholeUptoRow.holds Try.pinned (OpenSpec.upto plansMinimalStayWholeSpec)

/-- 'helmsmanlaw1.StripsMatchesSpec', WHERE WHAT IT READS IS OF BULK AT MOST 1048576: true; the input reads as it did. -/
def stripsMatchesSpecUptoRow : OpenClaim := { program := "ytnediihfgmigiaa", sum := "2654ff3d657730880d5d56024156f8c757a90afa7e3a9a5c593a88817f315db8", func := "helmsman/helmsmanlaw1.StripsMatchesSpec", spec := "stripsMatchesSpec", unfollowed := true, recurses := true, apart := false, narrowed := true }
def StripsMatchesSpecUptoSaid : Prop := stripsMatchesSpecUptoRow.holds Try.pinned (OpenSpec.upto stripsMatchesSpecSpec)

/-- 'helmsmanlaw1.StripsPlansMatchSpec', WHERE WHAT IT READS IS OF BULK AT MOST 1048576: true; the input reads as it did. -/
def stripsPlansMatchSpecUptoRow : OpenClaim := { program := "ytnediihfgmigiaa", sum := "2654ff3d657730880d5d56024156f8c757a90afa7e3a9a5c593a88817f315db8", func := "helmsman/helmsmanlaw1.StripsPlansMatchSpec", spec := "stripsPlansMatchSpec", unfollowed := true, recurses := true, apart := false, narrowed := true }
def StripsPlansMatchSpecUptoSaid : Prop := stripsPlansMatchSpecUptoRow.holds Try.pinned (OpenSpec.upto stripsPlansMatchSpecSpec)

/-- 'helmsmanlaw1.StripsFrame', WHERE WHAT IT READS IS OF BULK AT MOST 1048576: true; the input reads as it did. -/
def stripsFrameUptoRow : OpenClaim := { program := "ytnediihfgmigiaa", sum := "2654ff3d657730880d5d56024156f8c757a90afa7e3a9a5c593a88817f315db8", func := "helmsman/helmsmanlaw1.StripsFrame", spec := "stripsFrame", unfollowed := true, recurses := true, apart := false, narrowed := true }
def StripsFrameUptoSaid : Prop := stripsFrameUptoRow.holds Try.pinned (OpenSpec.upto stripsFrameSpec)

/-- 'helmsmanlaw1.StripsRegressionIsExact', WHERE WHAT IT READS IS OF BULK AT MOST 1048576: true; the input reads as it did. -/
def stripsRegressionIsExactUptoRow : OpenClaim := { program := "ytnediihfgmigiaa", sum := "2654ff3d657730880d5d56024156f8c757a90afa7e3a9a5c593a88817f315db8", func := "helmsman/helmsmanlaw1.StripsRegressionIsExact", spec := "stripsRegressionIsExact", unfollowed := true, recurses := true, apart := false, narrowed := true }
def StripsRegressionIsExactUptoSaid : Prop := stripsRegressionIsExactUptoRow.holds Try.pinned (OpenSpec.upto stripsRegressionIsExactSpec)

/-- 'helmsmanlaw1.StripsPlansConcatenate', WHERE WHAT IT READS IS OF BULK AT MOST 1048576: true; the input reads as it did. -/
def stripsPlansConcatenateUptoRow : OpenClaim := { program := "ytnediihfgmigiaa", sum := "2654ff3d657730880d5d56024156f8c757a90afa7e3a9a5c593a88817f315db8", func := "helmsman/helmsmanlaw1.StripsPlansConcatenate", spec := "stripsPlansConcatenate", unfollowed := true, recurses := true, apart := false, narrowed := true }
def StripsPlansConcatenateUptoSaid : Prop := stripsPlansConcatenateUptoRow.holds Try.pinned (OpenSpec.upto stripsPlansConcatenateSpec)

/-- 'helmsmanlaw1.StripsMoreFactsKeepPlans', WHERE WHAT IT READS IS OF BULK AT MOST 1048576: true; the input reads as it did. -/
def stripsMoreFactsKeepPlansUptoRow : OpenClaim := { program := "ytnediihfgmigiaa", sum := "2654ff3d657730880d5d56024156f8c757a90afa7e3a9a5c593a88817f315db8", func := "helmsman/helmsmanlaw1.StripsMoreFactsKeepPlans", spec := "stripsMoreFactsKeepPlans", unfollowed := true, recurses := true, apart := false, narrowed := true }
def StripsMoreFactsKeepPlansUptoSaid : Prop := stripsMoreFactsKeepPlansUptoRow.holds Try.pinned (OpenSpec.upto stripsMoreFactsKeepPlansSpec)

/-- 'helmsmanlaw1.PlansReducedAreSolutions', WHERE WHAT IT READS IS OF BULK AT MOST 1048576: true; the input reads as it did. -/
def plansReducedAreSolutionsUptoRow : OpenClaim := { program := "ytnediihfgmigiaa", sum := "2654ff3d657730880d5d56024156f8c757a90afa7e3a9a5c593a88817f315db8", func := "helmsman/helmsmanlaw1.PlansReducedAreSolutions", spec := "plansReducedAreSolutions", unfollowed := true, recurses := true, apart := false, narrowed := true }
def PlansReducedAreSolutionsUptoSaid : Prop := plansReducedAreSolutionsUptoRow.holds Try.pinned (OpenSpec.upto plansReducedAreSolutionsSpec)

/-- 'helmsmanlaw1.PlansFailuresAreReal', WHERE WHAT IT READS IS OF BULK AT MOST 1048576: true; the input reads as it did. -/
def plansFailuresAreRealUptoRow : OpenClaim := { program := "ytnediihfgmigiaa", sum := "2654ff3d657730880d5d56024156f8c757a90afa7e3a9a5c593a88817f315db8", func := "helmsman/helmsmanlaw1.PlansFailuresAreReal", spec := "plansFailuresAreReal", unfollowed := true, recurses := true, apart := false, narrowed := true }
def PlansFailuresAreRealUptoSaid : Prop := plansFailuresAreRealUptoRow.holds Try.pinned (OpenSpec.upto plansFailuresAreRealSpec)

/-- 'helmsmanlaw1.MultiStatesHaveOneValue', WHERE WHAT IT READS IS OF BULK AT MOST 1048576: true; the input reads as it did. -/
def multiStatesHaveOneValueUptoRow : OpenClaim := { program := "ytnediihfgmigiaa", sum := "2654ff3d657730880d5d56024156f8c757a90afa7e3a9a5c593a88817f315db8", func := "helmsman/helmsmanlaw1.MultiStatesHaveOneValue", spec := "multiStatesHaveOneValue", unfollowed := true, recurses := true, apart := false, narrowed := true }
def MultiStatesHaveOneValueUptoSaid : Prop := multiStatesHaveOneValueUptoRow.holds Try.pinned (OpenSpec.upto multiStatesHaveOneValueSpec)

/-- 'helmsmanlaw1.MultiStripsHasTheSamePlans', WHERE WHAT IT READS IS OF BULK AT MOST 1048576: true; the input reads as it did. -/
def multiStripsHasTheSamePlansUptoRow : OpenClaim := { program := "ytnediihfgmigiaa", sum := "2654ff3d657730880d5d56024156f8c757a90afa7e3a9a5c593a88817f315db8", func := "helmsman/helmsmanlaw1.MultiStripsHasTheSamePlans", spec := "multiStripsHasTheSamePlans", unfollowed := true, recurses := true, apart := false, narrowed := true }
def MultiStripsHasTheSamePlansUptoSaid : Prop := multiStripsHasTheSamePlansUptoRow.holds Try.pinned (OpenSpec.upto multiStripsHasTheSamePlansSpec)

end Rows
end Go.Proofs.Ytnediihfgmigiaa
