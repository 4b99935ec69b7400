/-
  No cell of these rows narrows 'for every input' (looked for: loops, veiled, ifaces, maps, wideKeys, modest, calm, conditions, laid).
  DERIVED. THE GIVEN ROWS OF THIS SEAT. 6 by the template 'for every input the law returns true; each argument reads behind the call as it read before'; 0 by the template 'total and deterministic' (their statements: YtjkpijodocopmaaTotals.lean).
  GIVEN WITH THE SEED: the statements are not yours to turn. If you find one false, say at which input.
  Laid BY PROGRAM, IN A SANDBOX (cutbox-rows.mjs): the forced cells as the released guide's own fill.sh prints them over the translation 78dac5591e3de209… (all of the seat's roots in one cut). By AI agents, Wed Nov 11 2026. No macro, syntax, notation, axiom, sorry.
-/
import Derived.Test.YtjkpijodocopmaaChecked
import GoSem.Claim
import GoSem.ClaimJoined
import GoSem.ClaimMapViews
import Derived.JoinedTies
import Derived.KernelRfl
namespace Go.Proofs.Ytjkpijodocopmaa
/- THE CELL 'sum', in the pinned program and in every row, IS THE sha256 OF THE DUMP (.gsa) THAT YtjkpijodocopmaaProg.lean LOADS. Nothing in Lean hashes anything: it is a label: what it is worth is what the hold of that sum in a sandbox is worth. -/
noncomputable def Try.pinned : Pinned := { name := "ytjkpijodocopmaa", sum := "78dac5591e3de20968f41a91bec9520ed99ae347cb627867c8bb94e0814ea43b", checked := Try.checked }
namespace Rows
def none {H : Type} : Left H := { results := [], args := [] }

/-- 'helmsmanlaw1.StripsMatchesSpec': WHATEVER THE INPUT: true; the input reads as it did. -/
def stripsMatchesSpecSpec : ChangeSpec := { name := "stripsMatchesSpec", fn := fun _ => fun
  | [d1, d2, d3] => { results := [.lit (.bool true)], args := [d1, d2, d3] }
  | _ => none }
def stripsMatchesSpecRow : OpenClaim := { program := "ytjkpijodocopmaa", sum := "78dac5591e3de20968f41a91bec9520ed99ae347cb627867c8bb94e0814ea43b", func := "helmsman/helmsmanlaw1.StripsMatchesSpec", spec := "stripsMatchesSpec", unfollowed := true, recurses := true, apart := false }
def StripsMatchesSpecSaid : Prop := stripsMatchesSpecRow.holds Try.pinned (OpenSpec.ofChange stripsMatchesSpecSpec)

/-- ITS FALSE NEIGHBOUR: 'it returns false'. Refute it at one input. -/
def stripsMatchesSpecWrong : ChangeSpec := { name := "stripsMatchesSpec", fn := fun _ => fun
  | [d1, d2, d3] => { results := [.lit (.bool false)], args := [d1, d2, d3] }
  | _ => none }
def StripsMatchesSpecWrongFalsely : Prop := stripsMatchesSpecRow.holds Try.pinned (OpenSpec.ofChange stripsMatchesSpecWrong)

/-- 'helmsmanlaw1.StripsPlansMatchSpec': WHATEVER THE INPUT: true; the input reads as it did. -/
def stripsPlansMatchSpecSpec : ChangeSpec := { name := "stripsPlansMatchSpec", fn := fun _ => fun
  | [d1, d2, d3] => { results := [.lit (.bool true)], args := [d1, d2, d3] }
  | _ => none }
def stripsPlansMatchSpecRow : OpenClaim := { program := "ytjkpijodocopmaa", sum := "78dac5591e3de20968f41a91bec9520ed99ae347cb627867c8bb94e0814ea43b", func := "helmsman/helmsmanlaw1.StripsPlansMatchSpec", spec := "stripsPlansMatchSpec", unfollowed := true, recurses := true, apart := false }
def StripsPlansMatchSpecSaid : Prop := stripsPlansMatchSpecRow.holds Try.pinned (OpenSpec.ofChange stripsPlansMatchSpecSpec)

/-- ITS FALSE NEIGHBOUR: 'it returns false'. Refute it at one input. -/
def stripsPlansMatchSpecWrong : ChangeSpec := { name := "stripsPlansMatchSpec", fn := fun _ => fun
  | [d1, d2, d3] => { results := [.lit (.bool false)], args := [d1, d2, d3] }
  | _ => none }
def StripsPlansMatchSpecWrongFalsely : Prop := stripsPlansMatchSpecRow.holds Try.pinned (OpenSpec.ofChange stripsPlansMatchSpecWrong)

/-- 'helmsmanlaw1.StripsFrame': WHATEVER THE INPUT: true; the input reads as it did. -/
def stripsFrameSpec : ChangeSpec := { name := "stripsFrame", fn := fun _ => fun
  | [d1, d2, d3] => { results := [.lit (.bool true)], args := [d1, d2, d3] }
  | _ => none }
def stripsFrameRow : OpenClaim := { program := "ytjkpijodocopmaa", sum := "78dac5591e3de20968f41a91bec9520ed99ae347cb627867c8bb94e0814ea43b", func := "helmsman/helmsmanlaw1.StripsFrame", spec := "stripsFrame", unfollowed := true, recurses := true, apart := false }
def StripsFrameSaid : Prop := stripsFrameRow.holds Try.pinned (OpenSpec.ofChange stripsFrameSpec)

/-- ITS FALSE NEIGHBOUR: 'it returns false'. Refute it at one input. -/
def stripsFrameWrong : ChangeSpec := { name := "stripsFrame", fn := fun _ => fun
  | [d1, d2, d3] => { results := [.lit (.bool false)], args := [d1, d2, d3] }
  | _ => none }
def StripsFrameWrongFalsely : Prop := stripsFrameRow.holds Try.pinned (OpenSpec.ofChange stripsFrameWrong)

/-- 'helmsmanlaw1.StripsRegressionIsExact': WHATEVER THE INPUT: true; the input reads as it did. -/
def stripsRegressionIsExactSpec : ChangeSpec := { name := "stripsRegressionIsExact", fn := fun _ => fun
  | [d1, d2, d3, d4] => { results := [.lit (.bool true)], args := [d1, d2, d3, d4] }
  | _ => none }
def stripsRegressionIsExactRow : OpenClaim := { program := "ytjkpijodocopmaa", sum := "78dac5591e3de20968f41a91bec9520ed99ae347cb627867c8bb94e0814ea43b", func := "helmsman/helmsmanlaw1.StripsRegressionIsExact", spec := "stripsRegressionIsExact", unfollowed := true, recurses := true, apart := false }
def StripsRegressionIsExactSaid : Prop := stripsRegressionIsExactRow.holds Try.pinned (OpenSpec.ofChange stripsRegressionIsExactSpec)

/-- ITS FALSE NEIGHBOUR: 'it returns false'. Refute it at one input. -/
def stripsRegressionIsExactWrong : ChangeSpec := { name := "stripsRegressionIsExact", fn := fun _ => fun
  | [d1, d2, d3, d4] => { results := [.lit (.bool false)], args := [d1, d2, d3, d4] }
  | _ => none }
def StripsRegressionIsExactWrongFalsely : Prop := stripsRegressionIsExactRow.holds Try.pinned (OpenSpec.ofChange stripsRegressionIsExactWrong)

/-- 'helmsmanlaw1.StripsPlansConcatenate': WHATEVER THE INPUT: true; the input reads as it did. -/
def stripsPlansConcatenateSpec : ChangeSpec := { name := "stripsPlansConcatenate", fn := fun _ => fun
  | [d1, d2, d3, d4] => { results := [.lit (.bool true)], args := [d1, d2, d3, d4] }
  | _ => none }
def stripsPlansConcatenateRow : OpenClaim := { program := "ytjkpijodocopmaa", sum := "78dac5591e3de20968f41a91bec9520ed99ae347cb627867c8bb94e0814ea43b", func := "helmsman/helmsmanlaw1.StripsPlansConcatenate", spec := "stripsPlansConcatenate", unfollowed := true, recurses := true, apart := false }
def StripsPlansConcatenateSaid : Prop := stripsPlansConcatenateRow.holds Try.pinned (OpenSpec.ofChange stripsPlansConcatenateSpec)

/-- ITS FALSE NEIGHBOUR: 'it returns false'. Refute it at one input. -/
def stripsPlansConcatenateWrong : ChangeSpec := { name := "stripsPlansConcatenate", fn := fun _ => fun
  | [d1, d2, d3, d4] => { results := [.lit (.bool false)], args := [d1, d2, d3, d4] }
  | _ => none }
def StripsPlansConcatenateWrongFalsely : Prop := stripsPlansConcatenateRow.holds Try.pinned (OpenSpec.ofChange stripsPlansConcatenateWrong)

/-- 'helmsmanlaw1.StripsMoreFactsKeepPlans': WHATEVER THE INPUT: true; the input reads as it did. -/
def stripsMoreFactsKeepPlansSpec : ChangeSpec := { name := "stripsMoreFactsKeepPlans", fn := fun _ => fun
  | [d1, d2, d3, d4] => { results := [.lit (.bool true)], args := [d1, d2, d3, d4] }
  | _ => none }
def stripsMoreFactsKeepPlansRow : OpenClaim := { program := "ytjkpijodocopmaa", sum := "78dac5591e3de20968f41a91bec9520ed99ae347cb627867c8bb94e0814ea43b", func := "helmsman/helmsmanlaw1.StripsMoreFactsKeepPlans", spec := "stripsMoreFactsKeepPlans", unfollowed := true, recurses := true, apart := false }
def StripsMoreFactsKeepPlansSaid : Prop := stripsMoreFactsKeepPlansRow.holds Try.pinned (OpenSpec.ofChange stripsMoreFactsKeepPlansSpec)

/-- ITS FALSE NEIGHBOUR: 'it returns false'. Refute it at one input. -/
def stripsMoreFactsKeepPlansWrong : ChangeSpec := { name := "stripsMoreFactsKeepPlans", fn := fun _ => fun
  | [d1, d2, d3, d4] => { results := [.lit (.bool false)], args := [d1, d2, d3, d4] }
  | _ => none }
def StripsMoreFactsKeepPlansWrongFalsely : Prop := stripsMoreFactsKeepPlansRow.holds Try.pinned (OpenSpec.ofChange stripsMoreFactsKeepPlansWrong)

/- THE SECOND FORM. 'bulk': how many values and letters a reading holds, each counted each time it is reached (what is shared counts as often as it is met; a slice's spare places count too). A statement '..UptoSaid' is the law's where the arguments, and the package variables that the reading takes, are together of bulk at most 1048576: NARROWER than '..Said'. Prove '..Said' where nothing that the law and all that it calls make is longer than what came in: it says more and counts as full. Else prove '..UptoSaid'. A law counts once. -/
mutual
def uptoBulk {H : Type} : DataW H → Nat
  | .lit (.string bytes) => bytes.length + 1
  | .lit _ => 1
  | .nil => 1
  | .ptr d => uptoBulk d + 1
  | .slice elems spare => uptoBulkAll elems + uptoBulkAll spare + 1
  | .agg parts => uptoBulkAll parts + 1
  | .iface _ d => uptoBulk d + 1
  | .map entries => uptoBulkEntries entries + 1
  | .held _ => 1
def uptoBulkAll {H : Type} : List (DataW H) → Nat
  | [] => 0
  | d :: r => uptoBulk d + uptoBulkAll r
def uptoBulkEntries {H : Type} : List (Lit × DataW H) → Nat
  | [] => 0
  | x :: r => uptoBulkEntry x + uptoBulkEntries r
def uptoBulkEntry {H : Type} : Lit × DataW H → Nat
  | (.string bytes, d) => bytes.length + uptoBulk d + 1
  | (_, d) => uptoBulk d + 1
 end
def uptoSmall : (H : Type) → List (DataW H) → Bool := fun _ ds => decide (uptoBulkAll ds ≤ 1048576)
def OpenSpec.upto (s : _root_.Go.ChangeSpec) : _root_.Go.OpenSpec := { _root_.Go.OpenSpec.ofChange s with cond := some uptoSmall }

/-- 'helmsmanlaw1.StripsMatchesSpec', WHERE WHAT IT READS IS OF BULK AT MOST 1048576: true; the input reads as it did. -/
def stripsMatchesSpecUptoRow : OpenClaim := { program := "ytjkpijodocopmaa", sum := "78dac5591e3de20968f41a91bec9520ed99ae347cb627867c8bb94e0814ea43b", func := "helmsman/helmsmanlaw1.StripsMatchesSpec", spec := "stripsMatchesSpec", unfollowed := true, recurses := true, apart := false, narrowed := true }
def StripsMatchesSpecUptoSaid : Prop := stripsMatchesSpecUptoRow.holds Try.pinned (OpenSpec.upto stripsMatchesSpecSpec)

/-- 'helmsmanlaw1.StripsPlansMatchSpec', WHERE WHAT IT READS IS OF BULK AT MOST 1048576: true; the input reads as it did. -/
def stripsPlansMatchSpecUptoRow : OpenClaim := { program := "ytjkpijodocopmaa", sum := "78dac5591e3de20968f41a91bec9520ed99ae347cb627867c8bb94e0814ea43b", func := "helmsman/helmsmanlaw1.StripsPlansMatchSpec", spec := "stripsPlansMatchSpec", unfollowed := true, recurses := true, apart := false, narrowed := true }
def StripsPlansMatchSpecUptoSaid : Prop := stripsPlansMatchSpecUptoRow.holds Try.pinned (OpenSpec.upto stripsPlansMatchSpecSpec)

/-- 'helmsmanlaw1.StripsFrame', WHERE WHAT IT READS IS OF BULK AT MOST 1048576: true; the input reads as it did. -/
def stripsFrameUptoRow : OpenClaim := { program := "ytjkpijodocopmaa", sum := "78dac5591e3de20968f41a91bec9520ed99ae347cb627867c8bb94e0814ea43b", func := "helmsman/helmsmanlaw1.StripsFrame", spec := "stripsFrame", unfollowed := true, recurses := true, apart := false, narrowed := true }
def StripsFrameUptoSaid : Prop := stripsFrameUptoRow.holds Try.pinned (OpenSpec.upto stripsFrameSpec)

/-- 'helmsmanlaw1.StripsRegressionIsExact', WHERE WHAT IT READS IS OF BULK AT MOST 1048576: true; the input reads as it did. -/
def stripsRegressionIsExactUptoRow : OpenClaim := { program := "ytjkpijodocopmaa", sum := "78dac5591e3de20968f41a91bec9520ed99ae347cb627867c8bb94e0814ea43b", func := "helmsman/helmsmanlaw1.StripsRegressionIsExact", spec := "stripsRegressionIsExact", unfollowed := true, recurses := true, apart := false, narrowed := true }
def StripsRegressionIsExactUptoSaid : Prop := stripsRegressionIsExactUptoRow.holds Try.pinned (OpenSpec.upto stripsRegressionIsExactSpec)

/-- 'helmsmanlaw1.StripsPlansConcatenate', WHERE WHAT IT READS IS OF BULK AT MOST 1048576: true; the input reads as it did. -/
def stripsPlansConcatenateUptoRow : OpenClaim := { program := "ytjkpijodocopmaa", sum := "78dac5591e3de20968f41a91bec9520ed99ae347cb627867c8bb94e0814ea43b", func := "helmsman/helmsmanlaw1.StripsPlansConcatenate", spec := "stripsPlansConcatenate", unfollowed := true, recurses := true, apart := false, narrowed := true }
def StripsPlansConcatenateUptoSaid : Prop := stripsPlansConcatenateUptoRow.holds Try.pinned (OpenSpec.upto stripsPlansConcatenateSpec)

/-- 'helmsmanlaw1.StripsMoreFactsKeepPlans', WHERE WHAT IT READS IS OF BULK AT MOST 1048576: true; the input reads as it did. -/
def stripsMoreFactsKeepPlansUptoRow : OpenClaim := { program := "ytjkpijodocopmaa", sum := "78dac5591e3de20968f41a91bec9520ed99ae347cb627867c8bb94e0814ea43b", func := "helmsman/helmsmanlaw1.StripsMoreFactsKeepPlans", spec := "stripsMoreFactsKeepPlans", unfollowed := true, recurses := true, apart := false, narrowed := true }
def StripsMoreFactsKeepPlansUptoSaid : Prop := stripsMoreFactsKeepPlansUptoRow.holds Try.pinned (OpenSpec.upto stripsMoreFactsKeepPlansSpec)

end Rows
end Go.Proofs.Ytjkpijodocopmaa
