/-
  No cell of these rows narrows 'for every input' (looked for: loops, veiled, ifaces, maps, wideKeys, modest, calm, conditions, laid).
  DERIVED. THE GIVEN ROWS OF THIS SEAT. 5 by the template 'for every input the law returns true; each argument reads behind the call as it read before'; 0 by the template 'total and deterministic' (their statements: YthlagieajgmefaaTotals.lean).
  GIVEN WITH THE SEED: the statements are not yours to turn. If you find one false, say at which input.
  Laid BY PROGRAM, IN A SANDBOX (cutbox-rows.mjs): the forced cells as the released guide's own fill.sh prints them over the translation 43893065d8747cd1… (all of the seat's roots in one cut). By AI agents, Wed Nov 11 2026. No macro, syntax, notation, axiom, sorry.
-/
import Derived.Test.YthlagieajgmefaaChecked
import GoSem.Claim
import GoSem.ClaimJoined
import GoSem.ClaimMapViews
import Derived.JoinedTies
import Derived.KernelRfl
namespace Go.Proofs.Ythlagieajgmefaa
/- THE CELL 'sum', in the pinned program and in every row, IS THE sha256 OF THE DUMP (.gsa) THAT YthlagieajgmefaaProg.lean LOADS. Nothing in Lean hashes anything: it is a label: what it is worth is what the hold of that sum in a sandbox is worth. -/
noncomputable def Try.pinned : Pinned := { name := "ythlagieajgmefaa", sum := "43893065d8747cd1c02de72a4b307996a461afe54da261db0c8c1e4eb2576249", checked := Try.checked }
namespace Rows
def none {H : Type} : Left H := { results := [], args := [] }

/-- 'helmsmanlaw1.SexprMatchesSpec': WHATEVER THE INPUT: true; the input reads as it did. -/
def sexprMatchesSpecSpec : ChangeSpec := { name := "sexprMatchesSpec", fn := fun _ => fun
  | [d] => { results := [.lit (.bool true)], args := [d] }
  | _ => none }
def sexprMatchesSpecRow : OpenClaim := { program := "ythlagieajgmefaa", sum := "43893065d8747cd1c02de72a4b307996a461afe54da261db0c8c1e4eb2576249", func := "helmsman/helmsmanlaw1.SexprMatchesSpec", spec := "sexprMatchesSpec", inPlace := ["internal/bytealg.IndexByteString", "internal/abi.NoEscape"], unfollowed := true, recurses := true, apart := false }
def SexprMatchesSpecSaid : Prop := sexprMatchesSpecRow.holds Try.pinned (OpenSpec.ofChange sexprMatchesSpecSpec)

/-- ITS FALSE NEIGHBOUR: 'it returns false'. Refute it at one input. -/
def sexprMatchesSpecWrong : ChangeSpec := { name := "sexprMatchesSpec", fn := fun _ => fun
  | [d] => { results := [.lit (.bool false)], args := [d] }
  | _ => none }
def SexprMatchesSpecWrongFalsely : Prop := sexprMatchesSpecRow.holds Try.pinned (OpenSpec.ofChange sexprMatchesSpecWrong)

/-- 'helmsmanlaw1.SexprReadMatchesSpec': WHATEVER THE INPUT: true; the input reads as it did. -/
def sexprReadMatchesSpecSpec : ChangeSpec := { name := "sexprReadMatchesSpec", fn := fun _ => fun
  | [d] => { results := [.lit (.bool true)], args := [d] }
  | _ => none }
def sexprReadMatchesSpecRow : OpenClaim := { program := "ythlagieajgmefaa", sum := "43893065d8747cd1c02de72a4b307996a461afe54da261db0c8c1e4eb2576249", func := "helmsman/helmsmanlaw1.SexprReadMatchesSpec", spec := "sexprReadMatchesSpec", inPlace := ["internal/bytealg.IndexByteString", "internal/abi.NoEscape"], unfollowed := true, recurses := true, apart := false }
def SexprReadMatchesSpecSaid : Prop := sexprReadMatchesSpecRow.holds Try.pinned (OpenSpec.ofChange sexprReadMatchesSpecSpec)

/-- ITS FALSE NEIGHBOUR: 'it returns false'. Refute it at one input. -/
def sexprReadMatchesSpecWrong : ChangeSpec := { name := "sexprReadMatchesSpec", fn := fun _ => fun
  | [d] => { results := [.lit (.bool false)], args := [d] }
  | _ => none }
def SexprReadMatchesSpecWrongFalsely : Prop := sexprReadMatchesSpecRow.holds Try.pinned (OpenSpec.ofChange sexprReadMatchesSpecWrong)

/-- 'helmsmanlaw1.SexprTextsRoundTrip': WHATEVER THE INPUT: true; the input reads as it did. -/
def sexprTextsRoundTripSpec : ChangeSpec := { name := "sexprTextsRoundTrip", fn := fun _ => fun
  | [d] => { results := [.lit (.bool true)], args := [d] }
  | _ => none }
def sexprTextsRoundTripRow : OpenClaim := { program := "ythlagieajgmefaa", sum := "43893065d8747cd1c02de72a4b307996a461afe54da261db0c8c1e4eb2576249", func := "helmsman/helmsmanlaw1.SexprTextsRoundTrip", spec := "sexprTextsRoundTrip", inPlace := ["internal/bytealg.IndexByteString", "internal/abi.NoEscape"], unfollowed := true, recurses := true, apart := false }
def SexprTextsRoundTripSaid : Prop := sexprTextsRoundTripRow.holds Try.pinned (OpenSpec.ofChange sexprTextsRoundTripSpec)

/-- ITS FALSE NEIGHBOUR: 'it returns false'. Refute it at one input. -/
def sexprTextsRoundTripWrong : ChangeSpec := { name := "sexprTextsRoundTrip", fn := fun _ => fun
  | [d] => { results := [.lit (.bool false)], args := [d] }
  | _ => none }
def SexprTextsRoundTripWrongFalsely : Prop := sexprTextsRoundTripRow.holds Try.pinned (OpenSpec.ofChange sexprTextsRoundTripWrong)

/-- 'helmsmanlaw1.SexprReadIsValid': WHATEVER THE INPUT: true; the input reads as it did. -/
def sexprReadIsValidSpec : ChangeSpec := { name := "sexprReadIsValid", fn := fun _ => fun
  | [d] => { results := [.lit (.bool true)], args := [d] }
  | _ => none }
def sexprReadIsValidRow : OpenClaim := { program := "ythlagieajgmefaa", sum := "43893065d8747cd1c02de72a4b307996a461afe54da261db0c8c1e4eb2576249", func := "helmsman/helmsmanlaw1.SexprReadIsValid", spec := "sexprReadIsValid", inPlace := ["internal/bytealg.IndexByteString", "internal/abi.NoEscape"], unfollowed := true, recurses := true, apart := false }
def SexprReadIsValidSaid : Prop := sexprReadIsValidRow.holds Try.pinned (OpenSpec.ofChange sexprReadIsValidSpec)

/-- ITS FALSE NEIGHBOUR: 'it returns false'. Refute it at one input. -/
def sexprReadIsValidWrong : ChangeSpec := { name := "sexprReadIsValid", fn := fun _ => fun
  | [d] => { results := [.lit (.bool false)], args := [d] }
  | _ => none }
def SexprReadIsValidWrongFalsely : Prop := sexprReadIsValidRow.holds Try.pinned (OpenSpec.ofChange sexprReadIsValidWrong)

/-- 'helmsmanlaw1.SexprListsNest': WHATEVER THE INPUT: true; the input reads as it did. -/
def sexprListsNestSpec : ChangeSpec := { name := "sexprListsNest", fn := fun _ => fun
  | [d1, d2] => { results := [.lit (.bool true)], args := [d1, d2] }
  | _ => none }
def sexprListsNestRow : OpenClaim := { program := "ythlagieajgmefaa", sum := "43893065d8747cd1c02de72a4b307996a461afe54da261db0c8c1e4eb2576249", func := "helmsman/helmsmanlaw1.SexprListsNest", spec := "sexprListsNest", inPlace := ["internal/bytealg.IndexByteString", "internal/abi.NoEscape"], unfollowed := true, recurses := true, apart := false }
def SexprListsNestSaid : Prop := sexprListsNestRow.holds Try.pinned (OpenSpec.ofChange sexprListsNestSpec)

/-- ITS FALSE NEIGHBOUR: 'it returns false'. Refute it at one input. -/
def sexprListsNestWrong : ChangeSpec := { name := "sexprListsNest", fn := fun _ => fun
  | [d1, d2] => { results := [.lit (.bool false)], args := [d1, d2] }
  | _ => none }
def SexprListsNestWrongFalsely : Prop := sexprListsNestRow.holds Try.pinned (OpenSpec.ofChange sexprListsNestWrong)

/- THE SECOND FORM. 'bulk': how many values and letters a reading holds, each counted each time it is reached (what is shared counts as often as it is met; a slice's spare places count too). A statement '..UptoSaid' is the law's where the arguments, and the package variables that the reading takes, are together of bulk at most 1048576: NARROWER than '..Said'. Prove '..Said' where nothing that the law and all that it calls make is longer than what came in: it says more and counts as full. Else prove '..UptoSaid'. A law counts once. -/
mutual
def uptoBulk {H : Type} : DataW H → Nat
  | .lit (.string bytes) => bytes.length + 1
  | .lit _ => 1
  | .nil => 1
  | .ptr d => uptoBulk d + 1
  | .slice elems spare => uptoBulkAll elems + uptoBulkAll spare + 1
  | .agg parts => uptoBulkAll parts + 1
  | .iface _ d => uptoBulk d + 1
  | .map entries => uptoBulkEntries entries + 1
  | .held _ => 1
def uptoBulkAll {H : Type} : List (DataW H) → Nat
  | [] => 0
  | d :: r => uptoBulk d + uptoBulkAll r
def uptoBulkEntries {H : Type} : List (Lit × DataW H) → Nat
  | [] => 0
  | x :: r => uptoBulkEntry x + uptoBulkEntries r
def uptoBulkEntry {H : Type} : Lit × DataW H → Nat
  | (.string bytes, d) => bytes.length + uptoBulk d + 1
  | (_, d) => uptoBulk d + 1
 end
def uptoSmall : (H : Type) → List (DataW H) → Bool := fun _ ds => decide (uptoBulkAll ds ≤ 1048576)
def OpenSpec.upto (s : _root_.Go.ChangeSpec) : _root_.Go.OpenSpec := { _root_.Go.OpenSpec.ofChange s with cond := some uptoSmall }

/-- 'helmsmanlaw1.SexprMatchesSpec', WHERE WHAT IT READS IS OF BULK AT MOST 1048576: true; the input reads as it did. -/
def sexprMatchesSpecUptoRow : OpenClaim := { program := "ythlagieajgmefaa", sum := "43893065d8747cd1c02de72a4b307996a461afe54da261db0c8c1e4eb2576249", func := "helmsman/helmsmanlaw1.SexprMatchesSpec", spec := "sexprMatchesSpec", inPlace := ["internal/bytealg.IndexByteString", "internal/abi.NoEscape"], unfollowed := true, recurses := true, apart := false, narrowed := true }
def SexprMatchesSpecUptoSaid : Prop := sexprMatchesSpecUptoRow.holds Try.pinned (OpenSpec.upto sexprMatchesSpecSpec)

/-- 'helmsmanlaw1.SexprReadMatchesSpec', WHERE WHAT IT READS IS OF BULK AT MOST 1048576: true; the input reads as it did. -/
def sexprReadMatchesSpecUptoRow : OpenClaim := { program := "ythlagieajgmefaa", sum := "43893065d8747cd1c02de72a4b307996a461afe54da261db0c8c1e4eb2576249", func := "helmsman/helmsmanlaw1.SexprReadMatchesSpec", spec := "sexprReadMatchesSpec", inPlace := ["internal/bytealg.IndexByteString", "internal/abi.NoEscape"], unfollowed := true, recurses := true, apart := false, narrowed := true }
def SexprReadMatchesSpecUptoSaid : Prop := sexprReadMatchesSpecUptoRow.holds Try.pinned (OpenSpec.upto sexprReadMatchesSpecSpec)

/-- 'helmsmanlaw1.SexprTextsRoundTrip', WHERE WHAT IT READS IS OF BULK AT MOST 1048576: true; the input reads as it did. -/
def sexprTextsRoundTripUptoRow : OpenClaim := { program := "ythlagieajgmefaa", sum := "43893065d8747cd1c02de72a4b307996a461afe54da261db0c8c1e4eb2576249", func := "helmsman/helmsmanlaw1.SexprTextsRoundTrip", spec := "sexprTextsRoundTrip", inPlace := ["internal/bytealg.IndexByteString", "internal/abi.NoEscape"], unfollowed := true, recurses := true, apart := false, narrowed := true }
def SexprTextsRoundTripUptoSaid : Prop := sexprTextsRoundTripUptoRow.holds Try.pinned (OpenSpec.upto sexprTextsRoundTripSpec)

/-- 'helmsmanlaw1.SexprReadIsValid', WHERE WHAT IT READS IS OF BULK AT MOST 1048576: true; the input reads as it did. -/
def sexprReadIsValidUptoRow : OpenClaim := { program := "ythlagieajgmefaa", sum := "43893065d8747cd1c02de72a4b307996a461afe54da261db0c8c1e4eb2576249", func := "helmsman/helmsmanlaw1.SexprReadIsValid", spec := "sexprReadIsValid", inPlace := ["internal/bytealg.IndexByteString", "internal/abi.NoEscape"], unfollowed := true, recurses := true, apart := false, narrowed := true }
def SexprReadIsValidUptoSaid : Prop := sexprReadIsValidUptoRow.holds Try.pinned (OpenSpec.upto sexprReadIsValidSpec)

/-- 'helmsmanlaw1.SexprListsNest', WHERE WHAT IT READS IS OF BULK AT MOST 1048576: true; the input reads as it did. -/
def sexprListsNestUptoRow : OpenClaim := { program := "ythlagieajgmefaa", sum := "43893065d8747cd1c02de72a4b307996a461afe54da261db0c8c1e4eb2576249", func := "helmsman/helmsmanlaw1.SexprListsNest", spec := "sexprListsNest", inPlace := ["internal/bytealg.IndexByteString", "internal/abi.NoEscape"], unfollowed := true, recurses := true, apart := false, narrowed := true }
def SexprListsNestUptoSaid : Prop := sexprListsNestUptoRow.holds Try.pinned (OpenSpec.upto sexprListsNestSpec)

end Rows
end Go.Proofs.Ythlagieajgmefaa
