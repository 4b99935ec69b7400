/-
  No cell of these rows narrows 'for every input' (looked for: loops, veiled, ifaces, maps, wideKeys, modest, calm, conditions, laid).
  DERIVED. THE GIVEN ROWS OF THIS SEAT. 5 by the template 'for every input the law returns true; each argument reads behind the call as it read before'; 0 by the template 'total and deterministic' (their statements: YtnkfkddgbiijgaaTotals.lean).
  GIVEN WITH THE SEED: the statements are not yours to turn. If you find one false, say at which input.
  Laid BY PROGRAM, IN A SANDBOX (cutbox-rows.mjs): the forced cells as the released guide's own fill.sh prints them over the translation f250500405b0d0ca… (all of the seat's roots in one cut). By AI agents, Wed Nov 11 2026. No macro, syntax, notation, axiom, sorry.
-/
import Derived.Test.YtnkfkddgbiijgaaChecked
import GoSem.Claim
import GoSem.ClaimJoined
import GoSem.ClaimMapViews
import Derived.JoinedTies
import Derived.KernelRfl
namespace Go.Proofs.Ytnkfkddgbiijgaa
/- THE CELL 'sum', in the pinned program and in every row, IS THE sha256 OF THE DUMP (.gsa) THAT YtnkfkddgbiijgaaProg.lean LOADS. Nothing in Lean hashes anything: it is a label: what it is worth is what the hold of that sum in a sandbox is worth. -/
noncomputable def Try.pinned : Pinned := { name := "ytnkfkddgbiijgaa", sum := "f250500405b0d0cae32367d9d9ac882481f14753ef326028caea0cca010b8337", checked := Try.checked }
namespace Rows
def none {H : Type} : Left H := { results := [], args := [] }

/-- 'helmsmanlaw1.PlansMatchSpec': WHATEVER THE INPUT: true; the input reads as it did. -/
def plansMatchSpecSpec : ChangeSpec := { name := "plansMatchSpec", fn := fun _ => fun
  | [d1, d2] => { results := [.lit (.bool true)], args := [d1, d2] }
  | _ => none }
def plansMatchSpecRow : OpenClaim := { program := "ytnkfkddgbiijgaa", sum := "f250500405b0d0cae32367d9d9ac882481f14753ef326028caea0cca010b8337", func := "helmsman/helmsmanlaw1.PlansMatchSpec", spec := "plansMatchSpec", unfollowed := true, recurses := true, apart := false }
def PlansMatchSpecSaid : Prop := plansMatchSpecRow.holds Try.pinned (OpenSpec.ofChange plansMatchSpecSpec)

/-- ITS FALSE NEIGHBOUR: 'it returns false'. Refute it at one input. -/
def plansMatchSpecWrong : ChangeSpec := { name := "plansMatchSpec", fn := fun _ => fun
  | [d1, d2] => { results := [.lit (.bool false)], args := [d1, d2] }
  | _ => none }
def PlansMatchSpecWrongFalsely : Prop := plansMatchSpecRow.holds Try.pinned (OpenSpec.ofChange plansMatchSpecWrong)

/-- 'helmsmanlaw1.PlansMinimalMatchesSpec': WHATEVER THE INPUT: true; the input reads as it did. -/
def plansMinimalMatchesSpecSpec : ChangeSpec := { name := "plansMinimalMatchesSpec", fn := fun _ => fun
  | [d1, d2] => { results := [.lit (.bool true)], args := [d1, d2] }
  | _ => none }
def plansMinimalMatchesSpecRow : OpenClaim := { program := "ytnkfkddgbiijgaa", sum := "f250500405b0d0cae32367d9d9ac882481f14753ef326028caea0cca010b8337", func := "helmsman/helmsmanlaw1.PlansMinimalMatchesSpec", spec := "plansMinimalMatchesSpec", unfollowed := true, recurses := true, apart := false }
def PlansMinimalMatchesSpecSaid : Prop := plansMinimalMatchesSpecRow.holds Try.pinned (OpenSpec.ofChange plansMinimalMatchesSpecSpec)

/-- ITS FALSE NEIGHBOUR: 'it returns false'. Refute it at one input. -/
def plansMinimalMatchesSpecWrong : ChangeSpec := { name := "plansMinimalMatchesSpec", fn := fun _ => fun
  | [d1, d2] => { results := [.lit (.bool false)], args := [d1, d2] }
  | _ => none }
def PlansMinimalMatchesSpecWrongFalsely : Prop := plansMinimalMatchesSpecRow.holds Try.pinned (OpenSpec.ofChange plansMinimalMatchesSpecWrong)

/-- 'helmsmanlaw1.PlansMinimalStayWhole': WHATEVER THE INPUT: true; the input reads as it did. -/
def plansMinimalStayWholeSpec : ChangeSpec := { name := "plansMinimalStayWhole", fn := fun _ => fun
  | [d1, d2, d3] => { results := [.lit (.bool true)], args := [d1, d2, d3] }
  | _ => none }
def plansMinimalStayWholeRow : OpenClaim := { program := "ytnkfkddgbiijgaa", sum := "f250500405b0d0cae32367d9d9ac882481f14753ef326028caea0cca010b8337", func := "helmsman/helmsmanlaw1.PlansMinimalStayWhole", spec := "plansMinimalStayWhole", unfollowed := true, recurses := true, apart := false }
def PlansMinimalStayWholeSaid : Prop := plansMinimalStayWholeRow.holds Try.pinned (OpenSpec.ofChange plansMinimalStayWholeSpec)

/-- ITS FALSE NEIGHBOUR: 'it returns false'. Refute it at one input. -/
def plansMinimalStayWholeWrong : ChangeSpec := { name := "plansMinimalStayWhole", fn := fun _ => fun
  | [d1, d2, d3] => { results := [.lit (.bool false)], args := [d1, d2, d3] }
  | _ => none }
def PlansMinimalStayWholeWrongFalsely : Prop := plansMinimalStayWholeRow.holds Try.pinned (OpenSpec.ofChange plansMinimalStayWholeWrong)

/-- 'helmsmanlaw1.PlansReducedAreSolutions': WHATEVER THE INPUT: true; the input reads as it did. -/
def plansReducedAreSolutionsSpec : ChangeSpec := { name := "plansReducedAreSolutions", fn := fun _ => fun
  | [d1, d2] => { results := [.lit (.bool true)], args := [d1, d2] }
  | _ => none }
def plansReducedAreSolutionsRow : OpenClaim := { program := "ytnkfkddgbiijgaa", sum := "f250500405b0d0cae32367d9d9ac882481f14753ef326028caea0cca010b8337", func := "helmsman/helmsmanlaw1.PlansReducedAreSolutions", spec := "plansReducedAreSolutions", unfollowed := true, recurses := true, apart := false }
def PlansReducedAreSolutionsSaid : Prop := plansReducedAreSolutionsRow.holds Try.pinned (OpenSpec.ofChange plansReducedAreSolutionsSpec)

/-- ITS FALSE NEIGHBOUR: 'it returns false'. Refute it at one input. -/
def plansReducedAreSolutionsWrong : ChangeSpec := { name := "plansReducedAreSolutions", fn := fun _ => fun
  | [d1, d2] => { results := [.lit (.bool false)], args := [d1, d2] }
  | _ => none }
def PlansReducedAreSolutionsWrongFalsely : Prop := plansReducedAreSolutionsRow.holds Try.pinned (OpenSpec.ofChange plansReducedAreSolutionsWrong)

/-- 'helmsmanlaw1.PlansFailuresAreReal': WHATEVER THE INPUT: true; the input reads as it did. -/
def plansFailuresAreRealSpec : ChangeSpec := { name := "plansFailuresAreReal", fn := fun _ => fun
  | [d1, d2] => { results := [.lit (.bool true)], args := [d1, d2] }
  | _ => none }
def plansFailuresAreRealRow : OpenClaim := { program := "ytnkfkddgbiijgaa", sum := "f250500405b0d0cae32367d9d9ac882481f14753ef326028caea0cca010b8337", func := "helmsman/helmsmanlaw1.PlansFailuresAreReal", spec := "plansFailuresAreReal", unfollowed := true, recurses := true, apart := false }
def PlansFailuresAreRealSaid : Prop := plansFailuresAreRealRow.holds Try.pinned (OpenSpec.ofChange plansFailuresAreRealSpec)

/-- ITS FALSE NEIGHBOUR: 'it returns false'. Refute it at one input. -/
def plansFailuresAreRealWrong : ChangeSpec := { name := "plansFailuresAreReal", fn := fun _ => fun
  | [d1, d2] => { results := [.lit (.bool false)], args := [d1, d2] }
  | _ => none }
def PlansFailuresAreRealWrongFalsely : Prop := plansFailuresAreRealRow.holds Try.pinned (OpenSpec.ofChange plansFailuresAreRealWrong)

/- THE SECOND FORM. 'bulk': how many values and letters a reading holds, each counted each time it is reached (what is shared counts as often as it is met; a slice's spare places count too). A statement '..UptoSaid' is the law's where the arguments, and the package variables that the reading takes, are together of bulk at most 1048576: NARROWER than '..Said'. Prove '..Said' where nothing that the law and all that it calls make is longer than what came in: it says more and counts as full. Else prove '..UptoSaid'. A law counts once. -/
mutual
def uptoBulk {H : Type} : DataW H → Nat
  | .lit (.string bytes) => bytes.length + 1
  | .lit _ => 1
  | .nil => 1
  | .ptr d => uptoBulk d + 1
  | .slice elems spare => uptoBulkAll elems + uptoBulkAll spare + 1
  | .agg parts => uptoBulkAll parts + 1
  | .iface _ d => uptoBulk d + 1
  | .map entries => uptoBulkEntries entries + 1
  | .held _ => 1
def uptoBulkAll {H : Type} : List (DataW H) → Nat
  | [] => 0
  | d :: r => uptoBulk d + uptoBulkAll r
def uptoBulkEntries {H : Type} : List (Lit × DataW H) → Nat
  | [] => 0
  | x :: r => uptoBulkEntry x + uptoBulkEntries r
def uptoBulkEntry {H : Type} : Lit × DataW H → Nat
  | (.string bytes, d) => bytes.length + uptoBulk d + 1
  | (_, d) => uptoBulk d + 1
 end
def uptoSmall : (H : Type) → List (DataW H) → Bool := fun _ ds => decide (uptoBulkAll ds ≤ 1048576)
def OpenSpec.upto (s : _root_.Go.ChangeSpec) : _root_.Go.OpenSpec := { _root_.Go.OpenSpec.ofChange s with cond := some uptoSmall }

/-- 'helmsmanlaw1.PlansMatchSpec', WHERE WHAT IT READS IS OF BULK AT MOST 1048576: true; the input reads as it did. -/
def plansMatchSpecUptoRow : OpenClaim := { program := "ytnkfkddgbiijgaa", sum := "f250500405b0d0cae32367d9d9ac882481f14753ef326028caea0cca010b8337", func := "helmsman/helmsmanlaw1.PlansMatchSpec", spec := "plansMatchSpec", unfollowed := true, recurses := true, apart := false, narrowed := true }
def PlansMatchSpecUptoSaid : Prop := plansMatchSpecUptoRow.holds Try.pinned (OpenSpec.upto plansMatchSpecSpec)

/-- 'helmsmanlaw1.PlansMinimalMatchesSpec', WHERE WHAT IT READS IS OF BULK AT MOST 1048576: true; the input reads as it did. -/
def plansMinimalMatchesSpecUptoRow : OpenClaim := { program := "ytnkfkddgbiijgaa", sum := "f250500405b0d0cae32367d9d9ac882481f14753ef326028caea0cca010b8337", func := "helmsman/helmsmanlaw1.PlansMinimalMatchesSpec", spec := "plansMinimalMatchesSpec", unfollowed := true, recurses := true, apart := false, narrowed := true }
def PlansMinimalMatchesSpecUptoSaid : Prop := plansMinimalMatchesSpecUptoRow.holds Try.pinned (OpenSpec.upto plansMinimalMatchesSpecSpec)

/-- 'helmsmanlaw1.PlansMinimalStayWhole', WHERE WHAT IT READS IS OF BULK AT MOST 1048576: true; the input reads as it did. -/
def plansMinimalStayWholeUptoRow : OpenClaim := { program := "ytnkfkddgbiijgaa", sum := "f250500405b0d0cae32367d9d9ac882481f14753ef326028caea0cca010b8337", func := "helmsman/helmsmanlaw1.PlansMinimalStayWhole", spec := "plansMinimalStayWhole", unfollowed := true, recurses := true, apart := false, narrowed := true }
def PlansMinimalStayWholeUptoSaid : Prop := plansMinimalStayWholeUptoRow.holds Try.pinned (OpenSpec.upto plansMinimalStayWholeSpec)

/-- 'helmsmanlaw1.PlansReducedAreSolutions', WHERE WHAT IT READS IS OF BULK AT MOST 1048576: true; the input reads as it did. -/
def plansReducedAreSolutionsUptoRow : OpenClaim := { program := "ytnkfkddgbiijgaa", sum := "f250500405b0d0cae32367d9d9ac882481f14753ef326028caea0cca010b8337", func := "helmsman/helmsmanlaw1.PlansReducedAreSolutions", spec := "plansReducedAreSolutions", unfollowed := true, recurses := true, apart := false, narrowed := true }
def PlansReducedAreSolutionsUptoSaid : Prop := plansReducedAreSolutionsUptoRow.holds Try.pinned (OpenSpec.upto plansReducedAreSolutionsSpec)

/-- 'helmsmanlaw1.PlansFailuresAreReal', WHERE WHAT IT READS IS OF BULK AT MOST 1048576: true; the input reads as it did. -/
def plansFailuresAreRealUptoRow : OpenClaim := { program := "ytnkfkddgbiijgaa", sum := "f250500405b0d0cae32367d9d9ac882481f14753ef326028caea0cca010b8337", func := "helmsman/helmsmanlaw1.PlansFailuresAreReal", spec := "plansFailuresAreReal", unfollowed := true, recurses := true, apart := false, narrowed := true }
def PlansFailuresAreRealUptoSaid : Prop := plansFailuresAreRealUptoRow.holds Try.pinned (OpenSpec.upto plansFailuresAreRealSpec)

end Rows
end Go.Proofs.Ytnkfkddgbiijgaa
