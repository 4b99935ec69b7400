/-
  No cell of these rows narrows 'for every input' (looked for: loops, veiled, ifaces, maps, wideKeys, modest, calm, conditions, laid).
  DERIVED. THE GIVEN ROWS OF THIS SEAT. 5 by the template 'for every input the law returns true; each argument reads behind the call as it read before'; 0 by the template 'total and deterministic' (their statements: YtcafpbooikaahaaGreatTotals.lean).
  GIVEN WITH THE SEED: the statements are not yours to turn. If you find one false, say at which input.
  Laid BY PROGRAM, IN A SANDBOX (cutbox-rows.mjs): the forced cells as the released guide's own fill.sh prints them over the translation 2f5d48123404f902… (all of the seat's roots in one cut). By AI agents, Wed Nov 11 2026. No macro, syntax, notation, axiom, sorry.
-/
import Derived.Test.YtcafpbooikaahaaGreatChecked
import GoSem.Claim
import GoSem.ClaimJoined
import GoSem.ClaimMapViews
import Derived.JoinedTies
import Derived.KernelRfl
namespace Go.Proofs.YtcafpbooikaahaaGreat
/- THE CELL 'sum', in the pinned program and in every row, IS THE sha256 OF THE DUMP (.gsa) THAT YtcafpbooikaahaaGreatProg.lean LOADS. Nothing in Lean hashes anything: it is a label: what it is worth is what the hold of that sum in a sandbox is worth. -/
noncomputable def Tryz.pinned : Pinned := { name := "ytcafpbooikaahaagreat", sum := "2f5d48123404f9023df610cd6bed8569d1233e4ec524a5e2f9950f491b6b5c1b", checked := Tryz.checked }
namespace Rows
def none {H : Type} : Left H := { results := [], args := [] }

/-- 'helmsmanlaw1.GroundAtomsMatchSpec': WHATEVER THE INPUT: true; the input reads as it did. -/
def groundAtomsMatchSpecSpec : ChangeSpec := { name := "groundAtomsMatchSpec", fn := fun _ => fun
  | [d] => { results := [.lit (.bool true)], args := [d] }
  | _ => none }
def groundAtomsMatchSpecRow : OpenClaim := { program := "ytcafpbooikaahaagreat", sum := "2f5d48123404f9023df610cd6bed8569d1233e4ec524a5e2f9950f491b6b5c1b", func := "helmsman/helmsmanlaw1.GroundAtomsMatchSpec", spec := "groundAtomsMatchSpec", unfollowed := true, recurses := true, apart := false }
def GroundAtomsMatchSpecSaid : Prop := groundAtomsMatchSpecRow.holds Tryz.pinned (OpenSpec.ofChange groundAtomsMatchSpecSpec)

/-- ITS FALSE NEIGHBOUR: 'it returns false'. Refute it at one input. -/
def groundAtomsMatchSpecWrong : ChangeSpec := { name := "groundAtomsMatchSpec", fn := fun _ => fun
  | [d] => { results := [.lit (.bool false)], args := [d] }
  | _ => none }
def GroundAtomsMatchSpecWrongFalsely : Prop := groundAtomsMatchSpecRow.holds Tryz.pinned (OpenSpec.ofChange groundAtomsMatchSpecWrong)

/-- 'helmsmanlaw1.GroundMatchesSpec': WHATEVER THE INPUT: true; the input reads as it did. -/
def groundMatchesSpecSpec : ChangeSpec := { name := "groundMatchesSpec", fn := fun _ => fun
  | [d] => { results := [.lit (.bool true)], args := [d] }
  | _ => none }
def groundMatchesSpecRow : OpenClaim := { program := "ytcafpbooikaahaagreat", sum := "2f5d48123404f9023df610cd6bed8569d1233e4ec524a5e2f9950f491b6b5c1b", func := "helmsman/helmsmanlaw1.GroundMatchesSpec", spec := "groundMatchesSpec", unfollowed := true, recurses := true, apart := false }
def GroundMatchesSpecSaid : Prop := groundMatchesSpecRow.holds Tryz.pinned (OpenSpec.ofChange groundMatchesSpecSpec)

/-- ITS FALSE NEIGHBOUR: 'it returns false'. Refute it at one input. -/
def groundMatchesSpecWrong : ChangeSpec := { name := "groundMatchesSpec", fn := fun _ => fun
  | [d] => { results := [.lit (.bool false)], args := [d] }
  | _ => none }
def GroundMatchesSpecWrongFalsely : Prop := groundMatchesSpecRow.holds Tryz.pinned (OpenSpec.ofChange groundMatchesSpecWrong)

/-- 'helmsmanlaw1.GroundTasksAreValid': WHATEVER THE INPUT: true; the input reads as it did. -/
def groundTasksAreValidSpec : ChangeSpec := { name := "groundTasksAreValid", fn := fun _ => fun
  | [d] => { results := [.lit (.bool true)], args := [d] }
  | _ => none }
def groundTasksAreValidRow : OpenClaim := { program := "ytcafpbooikaahaagreat", sum := "2f5d48123404f9023df610cd6bed8569d1233e4ec524a5e2f9950f491b6b5c1b", func := "helmsman/helmsmanlaw1.GroundTasksAreValid", spec := "groundTasksAreValid", unfollowed := true, recurses := true, apart := false }
def GroundTasksAreValidSaid : Prop := groundTasksAreValidRow.holds Tryz.pinned (OpenSpec.ofChange groundTasksAreValidSpec)

/-- ITS FALSE NEIGHBOUR: 'it returns false'. Refute it at one input. -/
def groundTasksAreValidWrong : ChangeSpec := { name := "groundTasksAreValid", fn := fun _ => fun
  | [d] => { results := [.lit (.bool false)], args := [d] }
  | _ => none }
def GroundTasksAreValidWrongFalsely : Prop := groundTasksAreValidRow.holds Tryz.pinned (OpenSpec.ofChange groundTasksAreValidWrong)

/-- 'helmsmanlaw1.GroundLiteralsExclude': WHATEVER THE INPUT: true; the input reads as it did. -/
def groundLiteralsExcludeSpec : ChangeSpec := { name := "groundLiteralsExclude", fn := fun _ => fun
  | [d1, d2] => { results := [.lit (.bool true)], args := [d1, d2] }
  | _ => none }
def groundLiteralsExcludeRow : OpenClaim := { program := "ytcafpbooikaahaagreat", sum := "2f5d48123404f9023df610cd6bed8569d1233e4ec524a5e2f9950f491b6b5c1b", func := "helmsman/helmsmanlaw1.GroundLiteralsExclude", spec := "groundLiteralsExclude", unfollowed := true, recurses := true, apart := false }
def GroundLiteralsExcludeSaid : Prop := groundLiteralsExcludeRow.holds Tryz.pinned (OpenSpec.ofChange groundLiteralsExcludeSpec)

/-- ITS FALSE NEIGHBOUR: 'it returns false'. Refute it at one input. -/
def groundLiteralsExcludeWrong : ChangeSpec := { name := "groundLiteralsExclude", fn := fun _ => fun
  | [d1, d2] => { results := [.lit (.bool false)], args := [d1, d2] }
  | _ => none }
def GroundLiteralsExcludeWrongFalsely : Prop := groundLiteralsExcludeRow.holds Tryz.pinned (OpenSpec.ofChange groundLiteralsExcludeWrong)

/-- 'helmsmanlaw1.GroundReachLosesNoPlan': WHATEVER THE INPUT: true; the input reads as it did. -/
def groundReachLosesNoPlanSpec : ChangeSpec := { name := "groundReachLosesNoPlan", fn := fun _ => fun
  | [d1, d2] => { results := [.lit (.bool true)], args := [d1, d2] }
  | _ => none }
def groundReachLosesNoPlanRow : OpenClaim := { program := "ytcafpbooikaahaagreat", sum := "2f5d48123404f9023df610cd6bed8569d1233e4ec524a5e2f9950f491b6b5c1b", func := "helmsman/helmsmanlaw1.GroundReachLosesNoPlan", spec := "groundReachLosesNoPlan", unfollowed := true, recurses := true, apart := false }
def GroundReachLosesNoPlanSaid : Prop := groundReachLosesNoPlanRow.holds Tryz.pinned (OpenSpec.ofChange groundReachLosesNoPlanSpec)

/-- ITS FALSE NEIGHBOUR: 'it returns false'. Refute it at one input. -/
def groundReachLosesNoPlanWrong : ChangeSpec := { name := "groundReachLosesNoPlan", fn := fun _ => fun
  | [d1, d2] => { results := [.lit (.bool false)], args := [d1, d2] }
  | _ => none }
def GroundReachLosesNoPlanWrongFalsely : Prop := groundReachLosesNoPlanRow.holds Tryz.pinned (OpenSpec.ofChange groundReachLosesNoPlanWrong)

/- THE SECOND FORM. 'bulk': how many values and letters a reading holds, each counted each time it is reached (what is shared counts as often as it is met; a slice's spare places count too). A statement '..UptoSaid' is the law's where the arguments, and the package variables that the reading takes, are together of bulk at most 1048576: NARROWER than '..Said'. Prove '..Said' where nothing that the law and all that it calls make is longer than what came in: it says more and counts as full. Else prove '..UptoSaid'. A law counts once. -/
mutual
def uptoBulk {H : Type} : DataW H → Nat
  | .lit (.string bytes) => bytes.length + 1
  | .lit _ => 1
  | .nil => 1
  | .ptr d => uptoBulk d + 1
  | .slice elems spare => uptoBulkAll elems + uptoBulkAll spare + 1
  | .agg parts => uptoBulkAll parts + 1
  | .iface _ d => uptoBulk d + 1
  | .map entries => uptoBulkEntries entries + 1
  | .held _ => 1
def uptoBulkAll {H : Type} : List (DataW H) → Nat
  | [] => 0
  | d :: r => uptoBulk d + uptoBulkAll r
def uptoBulkEntries {H : Type} : List (Lit × DataW H) → Nat
  | [] => 0
  | x :: r => uptoBulkEntry x + uptoBulkEntries r
def uptoBulkEntry {H : Type} : Lit × DataW H → Nat
  | (.string bytes, d) => bytes.length + uptoBulk d + 1
  | (_, d) => uptoBulk d + 1
 end
def uptoSmall : (H : Type) → List (DataW H) → Bool := fun _ ds => decide (uptoBulkAll ds ≤ 1048576)
def OpenSpec.upto (s : _root_.Go.ChangeSpec) : _root_.Go.OpenSpec := { _root_.Go.OpenSpec.ofChange s with cond := some uptoSmall }

/-- 'helmsmanlaw1.GroundAtomsMatchSpec', WHERE WHAT IT READS IS OF BULK AT MOST 1048576: true; the input reads as it did. -/
def groundAtomsMatchSpecUptoRow : OpenClaim := { program := "ytcafpbooikaahaagreat", sum := "2f5d48123404f9023df610cd6bed8569d1233e4ec524a5e2f9950f491b6b5c1b", func := "helmsman/helmsmanlaw1.GroundAtomsMatchSpec", spec := "groundAtomsMatchSpec", unfollowed := true, recurses := true, apart := false, narrowed := true }
def GroundAtomsMatchSpecUptoSaid : Prop := groundAtomsMatchSpecUptoRow.holds Tryz.pinned (OpenSpec.upto groundAtomsMatchSpecSpec)

/-- 'helmsmanlaw1.GroundMatchesSpec', WHERE WHAT IT READS IS OF BULK AT MOST 1048576: true; the input reads as it did. -/
def groundMatchesSpecUptoRow : OpenClaim := { program := "ytcafpbooikaahaagreat", sum := "2f5d48123404f9023df610cd6bed8569d1233e4ec524a5e2f9950f491b6b5c1b", func := "helmsman/helmsmanlaw1.GroundMatchesSpec", spec := "groundMatchesSpec", unfollowed := true, recurses := true, apart := false, narrowed := true }
def GroundMatchesSpecUptoSaid : Prop := groundMatchesSpecUptoRow.holds Tryz.pinned (OpenSpec.upto groundMatchesSpecSpec)

/-- 'helmsmanlaw1.GroundTasksAreValid', WHERE WHAT IT READS IS OF BULK AT MOST 1048576: true; the input reads as it did. -/
def groundTasksAreValidUptoRow : OpenClaim := { program := "ytcafpbooikaahaagreat", sum := "2f5d48123404f9023df610cd6bed8569d1233e4ec524a5e2f9950f491b6b5c1b", func := "helmsman/helmsmanlaw1.GroundTasksAreValid", spec := "groundTasksAreValid", unfollowed := true, recurses := true, apart := false, narrowed := true }
def GroundTasksAreValidUptoSaid : Prop := groundTasksAreValidUptoRow.holds Tryz.pinned (OpenSpec.upto groundTasksAreValidSpec)

/-- 'helmsmanlaw1.GroundLiteralsExclude', WHERE WHAT IT READS IS OF BULK AT MOST 1048576: true; the input reads as it did. -/
def groundLiteralsExcludeUptoRow : OpenClaim := { program := "ytcafpbooikaahaagreat", sum := "2f5d48123404f9023df610cd6bed8569d1233e4ec524a5e2f9950f491b6b5c1b", func := "helmsman/helmsmanlaw1.GroundLiteralsExclude", spec := "groundLiteralsExclude", unfollowed := true, recurses := true, apart := false, narrowed := true }
def GroundLiteralsExcludeUptoSaid : Prop := groundLiteralsExcludeUptoRow.holds Tryz.pinned (OpenSpec.upto groundLiteralsExcludeSpec)

/-- 'helmsmanlaw1.GroundReachLosesNoPlan', WHERE WHAT IT READS IS OF BULK AT MOST 1048576: true; the input reads as it did. -/
def groundReachLosesNoPlanUptoRow : OpenClaim := { program := "ytcafpbooikaahaagreat", sum := "2f5d48123404f9023df610cd6bed8569d1233e4ec524a5e2f9950f491b6b5c1b", func := "helmsman/helmsmanlaw1.GroundReachLosesNoPlan", spec := "groundReachLosesNoPlan", unfollowed := true, recurses := true, apart := false, narrowed := true }
def GroundReachLosesNoPlanUptoSaid : Prop := groundReachLosesNoPlanUptoRow.holds Tryz.pinned (OpenSpec.upto groundReachLosesNoPlanSpec)

end Rows
end Go.Proofs.YtcafpbooikaahaaGreat
