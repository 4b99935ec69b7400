/- The statements on types: validation, subtypes, common supertypes and members are as specified, for every input. -/
import Derived.Test.YtdncnfiinemnpaaRows
import Derived.Test.YtdncnfiinemnpaaTypesB
import Derived.Test.YtdncnfiinemnpaaTypesA
section
/- The statements on types: validation, subtypes, common supertypes and members are as specified, for every input. -/
namespace Go.Proofs.Ytdncnfiinemnpaa
open Hm
set_option maxRecDepth 100000
theorem own : ownKnob Try.prog.godebug = none := by kernel_rfl
theorem laid : laidOutB Try.prog = true := by kernel_rfl
theorem typesMatchSpec_in (H : Type) (ds : List (DataW H)) (hl : ds.length = 4) (h : ∀ (j : Nat) t d, [22, 23, 3, 3][j]? = some t → ds[j]? = some d → ∃ n, wt Try.prog n t d) : Fc Try.prog 3 (ds.map dv) (.bool true) := by
  match ds, hl with
  | [d0, d1, d2, d3], _ =>
    obtain ⟨_, h0⟩ := h 0 _ d0 rfl rfl
    obtain ⟨_, h1⟩ := h 1 _ d1 rfl rfl
    obtain ⟨_, h2⟩ := h 2 _ d2 rfl rfl
    obtain ⟨_, h3⟩ := h 3 _ d3 rfl rfl
    obtain ⟨x0, e0, p0⟩ := in_Typs h0
    obtain ⟨x1, e1, p1⟩ := in_Objs h1
    obtain ⟨x2, e2, p2⟩ := in_int h2
    obtain ⟨x3, e3, p3⟩ := in_int h3
    simp only [List.map_cons, List.map_nil, e0, e1, e2, e3]
    exact f_L1_TypesMatchSpec x0 p0 x1 p1 x2 x3
theorem typesMatchSpec_lifted (os : Os) (started : os.Started) (H : Type) (enc : TypeId × Value → H) :
    ReturnsInHanded {} Try.checked os 3 .any (Rows.typesMatchSpecSpec.pre6 enc Try.prog Try.f3 Rows.typesMatchSpecRow.domain false) (Rows.typesMatchSpecSpec.post enc Try.prog Try.f3 false true false false) :=
  law_lift (C := Try.checked) (n := 12) (tb := 4) own started (by kernel_rfl) Try.func3
    (ChangeSpec.witness6 (enc := enc) (C := Try.checked) false ⟨#[], #[.slice none 0 0, .slice none 0 0, .int .i64 0, .int .i64 0], []⟩ 8 (by kernel_rfl) (by kernel_rfl) (by kernel_rfl) (by kernel_rfl))
    rfl (fun ds hl => match ds, hl with
      | [_, _, _, _], _ => ⟨rfl, rfl, rfl⟩) laid (by kernel_rfl) (by kernel_rfl) (by kernel_rfl) Try.underlying4 (fun ds hl h => typesMatchSpec_in H ds hl h)
theorem typesMatchSpec_holds : Rows.TypesMatchSpecSaid :=
  OpenClaim.holds_of_wide 3 Try.f3 rfl rfl rfl rfl rfl rfl rfl ⟨rfl, rfl, rfl, rfl, rfl⟩ rfl rfl rfl rfl rfl (by kernel_rfl) Try.func3 (by kernel_rfl)
    (of_decide_eq_true (by kernel_rfl)) (by unfold Func.isWrapper; first | (rw [if_pos (by decide +kernel)]; kernel_rfl) | (rw [if_neg (by decide +kernel)]; exact ⟨rfl, rfl⟩))
    (fun os started H enc _ => typesMatchSpec_lifted os started H enc)
theorem typesAreOrdered_in (H : Type) (ds : List (DataW H)) (hl : ds.length = 4) (h : ∀ (j : Nat) t d, [22, 3, 3, 3][j]? = some t → ds[j]? = some d → ∃ n, wt Try.prog n t d) : Fc Try.prog 4 (ds.map dv) (.bool true) := by
  match ds, hl with
  | [d0, d1, d2, d3], _ =>
    obtain ⟨_, h0⟩ := h 0 _ d0 rfl rfl
    obtain ⟨_, h1⟩ := h 1 _ d1 rfl rfl
    obtain ⟨_, h2⟩ := h 2 _ d2 rfl rfl
    obtain ⟨_, h3⟩ := h 3 _ d3 rfl rfl
    obtain ⟨x0, e0, p0⟩ := in_Typs h0
    obtain ⟨x1, e1, p1⟩ := in_int h1
    obtain ⟨x2, e2, p2⟩ := in_int h2
    obtain ⟨x3, e3, p3⟩ := in_int h3
    simp only [List.map_cons, List.map_nil, e0, e1, e2, e3]
    exact f_L1_TypesAreOrdered x0 p0 x1 x2 x3
theorem typesAreOrdered_lifted (os : Os) (started : os.Started) (H : Type) (enc : TypeId × Value → H) :
    ReturnsInHanded {} Try.checked os 4 .any (Rows.typesAreOrderedSpec.pre6 enc Try.prog Try.f4 Rows.typesAreOrderedRow.domain false) (Rows.typesAreOrderedSpec.post enc Try.prog Try.f4 false true false false) :=
  law_lift (C := Try.checked) (n := 12) (tb := 4) own started (by kernel_rfl) Try.func4
    (ChangeSpec.witness6 (enc := enc) (C := Try.checked) false ⟨#[], #[.slice none 0 0, .int .i64 0, .int .i64 0, .int .i64 0], []⟩ 8 (by kernel_rfl) (by kernel_rfl) (by kernel_rfl) (by kernel_rfl))
    rfl (fun ds hl => match ds, hl with
      | [_, _, _, _], _ => ⟨rfl, rfl, rfl⟩) laid (by kernel_rfl) (by kernel_rfl) (by kernel_rfl) Try.underlying4 (fun ds hl h => typesAreOrdered_in H ds hl h)
theorem typesAreOrdered_holds : Rows.TypesAreOrderedSaid :=
  OpenClaim.holds_of_wide 4 Try.f4 rfl rfl rfl rfl rfl rfl rfl ⟨rfl, rfl, rfl, rfl, rfl⟩ rfl rfl rfl rfl rfl (by kernel_rfl) Try.func4 (by kernel_rfl)
    (of_decide_eq_true (by kernel_rfl)) (by unfold Func.isWrapper; first | (rw [if_pos (by decide +kernel)]; kernel_rfl) | (rw [if_neg (by decide +kernel)]; exact ⟨rfl, rfl⟩))
    (fun os started H enc _ => typesAreOrdered_lifted os started H enc)
theorem typesJoinIsLeast_in (H : Type) (ds : List (DataW H)) (hl : ds.length = 4) (h : ∀ (j : Nat) t d, [22, 3, 3, 3][j]? = some t → ds[j]? = some d → ∃ n, wt Try.prog n t d) : Fc Try.prog 5 (ds.map dv) (.bool true) := by
  match ds, hl with
  | [d0, d1, d2, d3], _ =>
    obtain ⟨_, h0⟩ := h 0 _ d0 rfl rfl
    obtain ⟨_, h1⟩ := h 1 _ d1 rfl rfl
    obtain ⟨_, h2⟩ := h 2 _ d2 rfl rfl
    obtain ⟨_, h3⟩ := h 3 _ d3 rfl rfl
    obtain ⟨x0, e0, p0⟩ := in_Typs h0
    obtain ⟨x1, e1, p1⟩ := in_int h1
    obtain ⟨x2, e2, p2⟩ := in_int h2
    obtain ⟨x3, e3, p3⟩ := in_int h3
    simp only [List.map_cons, List.map_nil, e0, e1, e2, e3]
    exact f_L1_TypesJoinIsLeast x0 p0 x1 x2 x3
theorem typesJoinIsLeast_lifted (os : Os) (started : os.Started) (H : Type) (enc : TypeId × Value → H) :
    ReturnsInHanded {} Try.checked os 5 .any (Rows.typesJoinIsLeastSpec.pre6 enc Try.prog Try.f5 Rows.typesJoinIsLeastRow.domain false) (Rows.typesJoinIsLeastSpec.post enc Try.prog Try.f5 false true false false) :=
  law_lift (C := Try.checked) (n := 12) (tb := 4) own started (by kernel_rfl) Try.func5
    (ChangeSpec.witness6 (enc := enc) (C := Try.checked) false ⟨#[], #[.slice none 0 0, .int .i64 0, .int .i64 0, .int .i64 0], []⟩ 8 (by kernel_rfl) (by kernel_rfl) (by kernel_rfl) (by kernel_rfl))
    rfl (fun ds hl => match ds, hl with
      | [_, _, _, _], _ => ⟨rfl, rfl, rfl⟩) laid (by kernel_rfl) (by kernel_rfl) (by kernel_rfl) Try.underlying4 (fun ds hl h => typesJoinIsLeast_in H ds hl h)
theorem typesJoinIsLeast_holds : Rows.TypesJoinIsLeastSaid :=
  OpenClaim.holds_of_wide 5 Try.f5 rfl rfl rfl rfl rfl rfl rfl ⟨rfl, rfl, rfl, rfl, rfl⟩ rfl rfl rfl rfl rfl (by kernel_rfl) Try.func5 (by kernel_rfl)
    (of_decide_eq_true (by kernel_rfl)) (by unfold Func.isWrapper; first | (rw [if_pos (by decide +kernel)]; kernel_rfl) | (rw [if_neg (by decide +kernel)]; exact ⟨rfl, rfl⟩))
    (fun os started H enc _ => typesJoinIsLeast_lifted os started H enc)
theorem typesMembersAreInherited_in (H : Type) (ds : List (DataW H)) (hl : ds.length = 4) (h : ∀ (j : Nat) t d, [22, 23, 3, 3][j]? = some t → ds[j]? = some d → ∃ n, wt Try.prog n t d) : Fc Try.prog 6 (ds.map dv) (.bool true) := by
  match ds, hl with
  | [d0, d1, d2, d3], _ =>
    obtain ⟨_, h0⟩ := h 0 _ d0 rfl rfl
    obtain ⟨_, h1⟩ := h 1 _ d1 rfl rfl
    obtain ⟨_, h2⟩ := h 2 _ d2 rfl rfl
    obtain ⟨_, h3⟩ := h 3 _ d3 rfl rfl
    obtain ⟨x0, e0, p0⟩ := in_Typs h0
    obtain ⟨x1, e1, p1⟩ := in_Objs h1
    obtain ⟨x2, e2, p2⟩ := in_int h2
    obtain ⟨x3, e3, p3⟩ := in_int h3
    simp only [List.map_cons, List.map_nil, e0, e1, e2, e3]
    exact f_L1_TypesMembersAreInherited x0 p0 x1 p1 x2 x3
theorem typesMembersAreInherited_lifted (os : Os) (started : os.Started) (H : Type) (enc : TypeId × Value → H) :
    ReturnsInHanded {} Try.checked os 6 .any (Rows.typesMembersAreInheritedSpec.pre6 enc Try.prog Try.f6 Rows.typesMembersAreInheritedRow.domain false) (Rows.typesMembersAreInheritedSpec.post enc Try.prog Try.f6 false true false false) :=
  law_lift (C := Try.checked) (n := 12) (tb := 4) own started (by kernel_rfl) Try.func6
    (ChangeSpec.witness6 (enc := enc) (C := Try.checked) false ⟨#[], #[.slice none 0 0, .slice none 0 0, .int .i64 0, .int .i64 0], []⟩ 8 (by kernel_rfl) (by kernel_rfl) (by kernel_rfl) (by kernel_rfl))
    rfl (fun ds hl => match ds, hl with
      | [_, _, _, _], _ => ⟨rfl, rfl, rfl⟩) laid (by kernel_rfl) (by kernel_rfl) (by kernel_rfl) Try.underlying4 (fun ds hl h => typesMembersAreInherited_in H ds hl h)
theorem typesMembersAreInherited_holds : Rows.TypesMembersAreInheritedSaid :=
  OpenClaim.holds_of_wide 6 Try.f6 rfl rfl rfl rfl rfl rfl rfl ⟨rfl, rfl, rfl, rfl, rfl⟩ rfl rfl rfl rfl rfl (by kernel_rfl) Try.func6 (by kernel_rfl)
    (of_decide_eq_true (by kernel_rfl)) (by unfold Func.isWrapper; first | (rw [if_pos (by decide +kernel)]; kernel_rfl) | (rw [if_neg (by decide +kernel)]; exact ⟨rfl, rfl⟩))
    (fun os started H enc _ => typesMembersAreInherited_lifted os started H enc)
end Go.Proofs.Ytdncnfiinemnpaa
end
