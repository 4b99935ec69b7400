/- Part Y2A of the proof. -/
import Derived.Test.YtcafpbooikaahaaGreatYC
set_option linter.unusedVariables false
set_option linter.unusedSimpArgs false
section
namespace Hm
open Go
section
variable {G : Type} {P : Program} {H : HT G} {pn : List Nat} {Q : Exit → Env → Store → G → Prop} {fs : List (Frm G)} {ρ : Env} {σ : Store} {g : G} {r : List GItem} {d : Nat} {dst : Option Nat} {a b : Cmd} {v : V} {o : AOp}
theorem i_bslo {nm size : Nat} {xs : List Opd} {l : List V} (hs : σ nm = .unused) (hw : (Nat.beq (wd nm) size && Nat.beq (nm / 1099511627776) 0) = true) (hl : fzL (xs.map (ev ρ)) = some l) (hp : l.all (fun v => pureB v && rowB v && Nat.beq v.cells.length size) = true)
    (h : WI P H pn Q fs r (upd ρ d (.sl (.own nm) l)) (ups σ nm (.vec xs.length)) g) : WI P H pn Q fs (.op (some d) none (.bslO nm size xs) :: r) ρ σ g := i_out (by
  cases fzL_eq hl
  simp only [AWop, hs]
  exact ⟨hw, hp, h.out⟩)
end
theorem any_take_none {α : Type} {p : α → Bool} {l : List α} {k : Nat} (h : ∀ j, j < k → ∀ u, l[j]? = some u → p u = false) : (l.take k).any p = false := by
  rw [Bool.eq_false_iff]
  intro e
  obtain ⟨x, h1, h2⟩ := List.any_eq_true.1 e
  obtain ⟨j, hj, e⟩ := List.getElem_of_mem h1
  have hj' : j < k := by simp at hj; omega
  have : l[j]? = some x := by
    rw [← e, List.getElem_take]
    exact List.getElem?_eq_getElem (by simp at hj; omega)
  rw [h j hj' x this] at h2
  cases h2
theorem any_take_hit {α : Type} {p : α → Bool} {l : List α} {k j : Nat} {u : α} (hj : j < k) (hu : l[j]? = some u) (hp : p u = true) : (l.take k).any p = true := by
  refine List.any_eq_true.2 ⟨u, ?_, hp⟩
  have : (l.take k)[j]? = some u := by rw [List.getElem?_take, if_pos hj, hu]
  exact List.mem_of_getElem? this
theorem supers_len {l : List Typ} : ∀ (n : Nat) (t : Int), (supersN l n t).length ≤ n + 1
  | 0, _ => by simp [supersN]
  | n + 1, t => by
    simp only [supersN]
    split
    · simp
    · have := supers_len (l := l) n (parentOf l t)
      simp only [List.length_cons]; omega
theorem supers_length {l : List Typ} {t : Int} (h : t < l.length) (hv : TyValid l) : (supers l t).length ≤ 10 := by
  have := supers_len (l := l) (t.toNat + 1) t
  have := hv.1
  unfold supers
  omega
theorem argL_snoc (d : Dom) (t : Int) : ∀ ts : List Int, argL d (ts ++ [t]) = (argL d ts).flatMap fun a => (memO d t).map fun o => a ++ [o]
  | [] => by
    simp only [List.nil_append, argL, List.flatMap_cons, List.flatMap_nil, List.append_nil, List.map_cons, List.map_nil]
    induction memO d t with
    | nil => rfl
    | cons o r ih => simp [ih]
  | u :: r => by
    simp only [List.cons_append, argL, argL_snoc d t r, List.flatMap_assoc]
    congr 1
    funext o
    simp [List.flatMap_map, List.map_flatMap, Function.comp_def]
end Hm
end
