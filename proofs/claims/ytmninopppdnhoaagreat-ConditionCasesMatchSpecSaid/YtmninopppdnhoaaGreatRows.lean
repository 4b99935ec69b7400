/-
  No cell of these rows narrows 'for every input' (looked for: loops, veiled, ifaces, maps, wideKeys, modest, calm, conditions, laid).
  DERIVED. THE GIVEN ROWS OF THIS SEAT. 6 by the template 'for every input the law returns true; each argument reads behind the call as it read before'; 0 by the template 'total and deterministic' (their statements: YtmninopppdnhoaaGreatTotals.lean).
  GIVEN WITH THE SEED: the statements are not yours to turn. If you find one false, say at which input.
  Laid BY PROGRAM, IN A SANDBOX (cutbox-rows.mjs): the forced cells as the released guide's own fill.sh prints them over the translation 331367cf2654adff… (all of the seat's roots in one cut). By AI agents, Wed Nov 11 2026. No macro, syntax, notation, axiom, sorry.
-/
import Derived.Test.YtmninopppdnhoaaGreatChecked
import GoSem.Claim
import GoSem.ClaimJoined
import GoSem.ClaimMapViews
import Derived.JoinedTies
import Derived.KernelRfl
namespace Go.Proofs.YtmninopppdnhoaaGreat
/- THE CELL 'sum', in the pinned program and in every row, IS THE sha256 OF THE DUMP (.gsa) THAT YtmninopppdnhoaaGreatProg.lean LOADS. Nothing in Lean hashes anything: it is a label: what it is worth is what the hold of that sum in a sandbox is worth. -/
noncomputable def Tryz.pinned : Pinned := { name := "ytmninopppdnhoaagreat", sum := "331367cf2654adffff0949d61a615d732dc37fd02c399f3947466147f7574a37", checked := Tryz.checked }
namespace Rows
def none {H : Type} : Left H := { results := [], args := [] }

/-- 'helmsmanlaw1.ConditionMatchesSpec': WHATEVER THE INPUT: true; the input reads as it did. -/
def conditionMatchesSpecSpec : ChangeSpec := { name := "conditionMatchesSpec", fn := fun _ => fun
  | [d1, d2, d3, d4] => { results := [.lit (.bool true)], args := [d1, d2, d3, d4] }
  | _ => none }
def conditionMatchesSpecRow : OpenClaim := { program := "ytmninopppdnhoaagreat", sum := "331367cf2654adffff0949d61a615d732dc37fd02c399f3947466147f7574a37", func := "helmsman/helmsmanlaw1.ConditionMatchesSpec", spec := "conditionMatchesSpec", unfollowed := true, recurses := true, apart := false }
def ConditionMatchesSpecSaid : Prop := conditionMatchesSpecRow.holds Tryz.pinned (OpenSpec.ofChange conditionMatchesSpecSpec)

/-- ITS FALSE NEIGHBOUR: 'it returns false'. Refute it at one input. -/
def conditionMatchesSpecWrong : ChangeSpec := { name := "conditionMatchesSpec", fn := fun _ => fun
  | [d1, d2, d3, d4] => { results := [.lit (.bool false)], args := [d1, d2, d3, d4] }
  | _ => none }
def ConditionMatchesSpecWrongFalsely : Prop := conditionMatchesSpecRow.holds Tryz.pinned (OpenSpec.ofChange conditionMatchesSpecWrong)

/-- 'helmsmanlaw1.ConditionNegateMatchesSpec': WHATEVER THE INPUT: true; the input reads as it did. -/
def conditionNegateMatchesSpecSpec : ChangeSpec := { name := "conditionNegateMatchesSpec", fn := fun _ => fun
  | [d1, d2] => { results := [.lit (.bool true)], args := [d1, d2] }
  | _ => none }
def conditionNegateMatchesSpecRow : OpenClaim := { program := "ytmninopppdnhoaagreat", sum := "331367cf2654adffff0949d61a615d732dc37fd02c399f3947466147f7574a37", func := "helmsman/helmsmanlaw1.ConditionNegateMatchesSpec", spec := "conditionNegateMatchesSpec", unfollowed := true, recurses := true, apart := false }
def ConditionNegateMatchesSpecSaid : Prop := conditionNegateMatchesSpecRow.holds Tryz.pinned (OpenSpec.ofChange conditionNegateMatchesSpecSpec)

/-- ITS FALSE NEIGHBOUR: 'it returns false'. Refute it at one input. -/
def conditionNegateMatchesSpecWrong : ChangeSpec := { name := "conditionNegateMatchesSpec", fn := fun _ => fun
  | [d1, d2] => { results := [.lit (.bool false)], args := [d1, d2] }
  | _ => none }
def ConditionNegateMatchesSpecWrongFalsely : Prop := conditionNegateMatchesSpecRow.holds Tryz.pinned (OpenSpec.ofChange conditionNegateMatchesSpecWrong)

/-- 'helmsmanlaw1.ConditionCasesMatchSpec': WHATEVER THE INPUT: true; the input reads as it did. -/
def conditionCasesMatchSpecSpec : ChangeSpec := { name := "conditionCasesMatchSpec", fn := fun _ => fun
  | [d1, d2, d3] => { results := [.lit (.bool true)], args := [d1, d2, d3] }
  | _ => none }
def conditionCasesMatchSpecRow : OpenClaim := { program := "ytmninopppdnhoaagreat", sum := "331367cf2654adffff0949d61a615d732dc37fd02c399f3947466147f7574a37", func := "helmsman/helmsmanlaw1.ConditionCasesMatchSpec", spec := "conditionCasesMatchSpec", unfollowed := true, recurses := true, apart := false }
def ConditionCasesMatchSpecSaid : Prop := conditionCasesMatchSpecRow.holds Tryz.pinned (OpenSpec.ofChange conditionCasesMatchSpecSpec)

/-- ITS FALSE NEIGHBOUR: 'it returns false'. Refute it at one input. -/
def conditionCasesMatchSpecWrong : ChangeSpec := { name := "conditionCasesMatchSpec", fn := fun _ => fun
  | [d1, d2, d3] => { results := [.lit (.bool false)], args := [d1, d2, d3] }
  | _ => none }
def ConditionCasesMatchSpecWrongFalsely : Prop := conditionCasesMatchSpecRow.holds Tryz.pinned (OpenSpec.ofChange conditionCasesMatchSpecWrong)

/-- 'helmsmanlaw1.ConditionNegationIsFalse': WHATEVER THE INPUT: true; the input reads as it did. -/
def conditionNegationIsFalseSpec : ChangeSpec := { name := "conditionNegationIsFalse", fn := fun _ => fun
  | [d1, d2, d3, d4] => { results := [.lit (.bool true)], args := [d1, d2, d3, d4] }
  | _ => none }
def conditionNegationIsFalseRow : OpenClaim := { program := "ytmninopppdnhoaagreat", sum := "331367cf2654adffff0949d61a615d732dc37fd02c399f3947466147f7574a37", func := "helmsman/helmsmanlaw1.ConditionNegationIsFalse", spec := "conditionNegationIsFalse", unfollowed := true, recurses := true, apart := false }
def ConditionNegationIsFalseSaid : Prop := conditionNegationIsFalseRow.holds Tryz.pinned (OpenSpec.ofChange conditionNegationIsFalseSpec)

/-- ITS FALSE NEIGHBOUR: 'it returns false'. Refute it at one input. -/
def conditionNegationIsFalseWrong : ChangeSpec := { name := "conditionNegationIsFalse", fn := fun _ => fun
  | [d1, d2, d3, d4] => { results := [.lit (.bool false)], args := [d1, d2, d3, d4] }
  | _ => none }
def ConditionNegationIsFalseWrongFalsely : Prop := conditionNegationIsFalseRow.holds Tryz.pinned (OpenSpec.ofChange conditionNegationIsFalseWrong)

/-- 'helmsmanlaw1.ConditionCasesAreEquivalent': WHATEVER THE INPUT: true; the input reads as it did. -/
def conditionCasesAreEquivalentSpec : ChangeSpec := { name := "conditionCasesAreEquivalent", fn := fun _ => fun
  | [d1, d2, d3, d4] => { results := [.lit (.bool true)], args := [d1, d2, d3, d4] }
  | _ => none }
def conditionCasesAreEquivalentRow : OpenClaim := { program := "ytmninopppdnhoaagreat", sum := "331367cf2654adffff0949d61a615d732dc37fd02c399f3947466147f7574a37", func := "helmsman/helmsmanlaw1.ConditionCasesAreEquivalent", spec := "conditionCasesAreEquivalent", unfollowed := true, recurses := true, apart := false }
def ConditionCasesAreEquivalentSaid : Prop := conditionCasesAreEquivalentRow.holds Tryz.pinned (OpenSpec.ofChange conditionCasesAreEquivalentSpec)

/-- ITS FALSE NEIGHBOUR: 'it returns false'. Refute it at one input. -/
def conditionCasesAreEquivalentWrong : ChangeSpec := { name := "conditionCasesAreEquivalent", fn := fun _ => fun
  | [d1, d2, d3, d4] => { results := [.lit (.bool false)], args := [d1, d2, d3, d4] }
  | _ => none }
def ConditionCasesAreEquivalentWrongFalsely : Prop := conditionCasesAreEquivalentRow.holds Tryz.pinned (OpenSpec.ofChange conditionCasesAreEquivalentWrong)

/-- 'helmsmanlaw1.ConditionAtomsThatDoNotOccur': WHATEVER THE INPUT: true; the input reads as it did. -/
def conditionAtomsThatDoNotOccurSpec : ChangeSpec := { name := "conditionAtomsThatDoNotOccur", fn := fun _ => fun
  | [d1, d2, d3, d4, d5] => { results := [.lit (.bool true)], args := [d1, d2, d3, d4, d5] }
  | _ => none }
def conditionAtomsThatDoNotOccurRow : OpenClaim := { program := "ytmninopppdnhoaagreat", sum := "331367cf2654adffff0949d61a615d732dc37fd02c399f3947466147f7574a37", func := "helmsman/helmsmanlaw1.ConditionAtomsThatDoNotOccur", spec := "conditionAtomsThatDoNotOccur", unfollowed := true, recurses := true, apart := false }
def ConditionAtomsThatDoNotOccurSaid : Prop := conditionAtomsThatDoNotOccurRow.holds Tryz.pinned (OpenSpec.ofChange conditionAtomsThatDoNotOccurSpec)

/-- ITS FALSE NEIGHBOUR: 'it returns false'. Refute it at one input. -/
def conditionAtomsThatDoNotOccurWrong : ChangeSpec := { name := "conditionAtomsThatDoNotOccur", fn := fun _ => fun
  | [d1, d2, d3, d4, d5] => { results := [.lit (.bool false)], args := [d1, d2, d3, d4, d5] }
  | _ => none }
def ConditionAtomsThatDoNotOccurWrongFalsely : Prop := conditionAtomsThatDoNotOccurRow.holds Tryz.pinned (OpenSpec.ofChange conditionAtomsThatDoNotOccurWrong)

/- THE SECOND FORM. 'bulk': how many values and letters a reading holds, each counted each time it is reached (what is shared counts as often as it is met; a slice's spare places count too). A statement '..UptoSaid' is the law's where the arguments, and the package variables that the reading takes, are together of bulk at most 1048576: NARROWER than '..Said'. Prove '..Said' where nothing that the law and all that it calls make is longer than what came in: it says more and counts as full. Else prove '..UptoSaid'. A law counts once. -/
mutual
def uptoBulk {H : Type} : DataW H → Nat
  | .lit (.string bytes) => bytes.length + 1
  | .lit _ => 1
  | .nil => 1
  | .ptr d => uptoBulk d + 1
  | .slice elems spare => uptoBulkAll elems + uptoBulkAll spare + 1
  | .agg parts => uptoBulkAll parts + 1
  | .iface _ d => uptoBulk d + 1
  | .map entries => uptoBulkEntries entries + 1
  | .held _ => 1
def uptoBulkAll {H : Type} : List (DataW H) → Nat
  | [] => 0
  | d :: r => uptoBulk d + uptoBulkAll r
def uptoBulkEntries {H : Type} : List (Lit × DataW H) → Nat
  | [] => 0
  | x :: r => uptoBulkEntry x + uptoBulkEntries r
def uptoBulkEntry {H : Type} : Lit × DataW H → Nat
  | (.string bytes, d) => bytes.length + uptoBulk d + 1
  | (_, d) => uptoBulk d + 1
 end
def uptoSmall : (H : Type) → List (DataW H) → Bool := fun _ ds => decide (uptoBulkAll ds ≤ 1048576)
def OpenSpec.upto (s : _root_.Go.ChangeSpec) : _root_.Go.OpenSpec := { _root_.Go.OpenSpec.ofChange s with cond := some uptoSmall }

/-- 'helmsmanlaw1.ConditionMatchesSpec', WHERE WHAT IT READS IS OF BULK AT MOST 1048576: true; the input reads as it did. -/
def conditionMatchesSpecUptoRow : OpenClaim := { program := "ytmninopppdnhoaagreat", sum := "331367cf2654adffff0949d61a615d732dc37fd02c399f3947466147f7574a37", func := "helmsman/helmsmanlaw1.ConditionMatchesSpec", spec := "conditionMatchesSpec", unfollowed := true, recurses := true, apart := false, narrowed := true }
def ConditionMatchesSpecUptoSaid : Prop := conditionMatchesSpecUptoRow.holds Tryz.pinned (OpenSpec.upto conditionMatchesSpecSpec)

/-- 'helmsmanlaw1.ConditionNegateMatchesSpec', WHERE WHAT IT READS IS OF BULK AT MOST 1048576: true; the input reads as it did. -/
def conditionNegateMatchesSpecUptoRow : OpenClaim := { program := "ytmninopppdnhoaagreat", sum := "331367cf2654adffff0949d61a615d732dc37fd02c399f3947466147f7574a37", func := "helmsman/helmsmanlaw1.ConditionNegateMatchesSpec", spec := "conditionNegateMatchesSpec", unfollowed := true, recurses := true, apart := false, narrowed := true }
def ConditionNegateMatchesSpecUptoSaid : Prop := conditionNegateMatchesSpecUptoRow.holds Tryz.pinned (OpenSpec.upto conditionNegateMatchesSpecSpec)

/-- 'helmsmanlaw1.ConditionCasesMatchSpec', WHERE WHAT IT READS IS OF BULK AT MOST 1048576: true; the input reads as it did. -/
def conditionCasesMatchSpecUptoRow : OpenClaim := { program := "ytmninopppdnhoaagreat", sum := "331367cf2654adffff0949d61a615d732dc37fd02c399f3947466147f7574a37", func := "helmsman/helmsmanlaw1.ConditionCasesMatchSpec", spec := "conditionCasesMatchSpec", unfollowed := true, recurses := true, apart := false, narrowed := true }
def ConditionCasesMatchSpecUptoSaid : Prop := conditionCasesMatchSpecUptoRow.holds Tryz.pinned (OpenSpec.upto conditionCasesMatchSpecSpec)

/-- 'helmsmanlaw1.ConditionNegationIsFalse', WHERE WHAT IT READS IS OF BULK AT MOST 1048576: true; the input reads as it did. -/
def conditionNegationIsFalseUptoRow : OpenClaim := { program := "ytmninopppdnhoaagreat", sum := "331367cf2654adffff0949d61a615d732dc37fd02c399f3947466147f7574a37", func := "helmsman/helmsmanlaw1.ConditionNegationIsFalse", spec := "conditionNegationIsFalse", unfollowed := true, recurses := true, apart := false, narrowed := true }
def ConditionNegationIsFalseUptoSaid : Prop := conditionNegationIsFalseUptoRow.holds Tryz.pinned (OpenSpec.upto conditionNegationIsFalseSpec)

/-- 'helmsmanlaw1.ConditionCasesAreEquivalent', WHERE WHAT IT READS IS OF BULK AT MOST 1048576: true; the input reads as it did. -/
def conditionCasesAreEquivalentUptoRow : OpenClaim := { program := "ytmninopppdnhoaagreat", sum := "331367cf2654adffff0949d61a615d732dc37fd02c399f3947466147f7574a37", func := "helmsman/helmsmanlaw1.ConditionCasesAreEquivalent", spec := "conditionCasesAreEquivalent", unfollowed := true, recurses := true, apart := false, narrowed := true }
def ConditionCasesAreEquivalentUptoSaid : Prop := conditionCasesAreEquivalentUptoRow.holds Tryz.pinned (OpenSpec.upto conditionCasesAreEquivalentSpec)

/-- 'helmsmanlaw1.ConditionAtomsThatDoNotOccur', WHERE WHAT IT READS IS OF BULK AT MOST 1048576: true; the input reads as it did. -/
def conditionAtomsThatDoNotOccurUptoRow : OpenClaim := { program := "ytmninopppdnhoaagreat", sum := "331367cf2654adffff0949d61a615d732dc37fd02c399f3947466147f7574a37", func := "helmsman/helmsmanlaw1.ConditionAtomsThatDoNotOccur", spec := "conditionAtomsThatDoNotOccur", unfollowed := true, recurses := true, apart := false, narrowed := true }
def ConditionAtomsThatDoNotOccurUptoSaid : Prop := conditionAtomsThatDoNotOccurUptoRow.holds Tryz.pinned (OpenSpec.upto conditionAtomsThatDoNotOccurSpec)

end Rows
end Go.Proofs.YtmninopppdnhoaaGreat
