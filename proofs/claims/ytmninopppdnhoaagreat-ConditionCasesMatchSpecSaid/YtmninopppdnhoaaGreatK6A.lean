/- Part K6A of the proof. -/
import Derived.Test.YtmninopppdnhoaaGreatKC
set_option linter.unusedVariables false
set_option linter.unusedSimpArgs false
section
namespace Hm
open Go
section
variable {G : Type} {P : Program} {H : HT G} {pn : List Nat} {Q : Exit → Env → Store → G → Prop} {fs : List (Frm G)} {ρ : Env} {σ : Store} {g : G} {r : List GItem} {d : Nat} {dst : Option Nat} {a b : Cmd} {v : V} {o : AOp}
theorem i_bslo {nm size : Nat} {xs : List Opd} {l : List V} (hs : σ nm = .unused) (hw : (Nat.beq (wd nm) size && Nat.beq (nm / 1099511627776) 0) = true) (hl : fzL (xs.map (ev ρ)) = some l) (hp : l.all (fun v => pureB v && rowB v && Nat.beq v.cells.length size) = true)
    (h : WI P H pn Q fs r (upd ρ d (.sl (.own nm) l)) (ups σ nm (.vec xs.length)) g) : WI P H pn Q fs (.op (some d) none (.bslO nm size xs) :: r) ρ σ g := i_out (by
  cases fzL_eq hl
  simp only [AWop, hs]
  exact ⟨hw, hp, h.out⟩)
theorem i_sl {size : Nat} {t : Tag} {rows : List V} {k1 : IntKind} {m : Int} {x : Opd} {lo : Option Opd} (hx : ev ρ x = .sl t rows) (hlo : loV ρ lo = .int k1 m) (h0 : 0 ≤ m) (h2 : m ≤ rows.length) (hw : m = 0 ∨ ∀ row ∈ rows, row.cells.length = size)
    (h : WI P H pn Q fs r (upd ρ d (.sl t (rows.drop m.toNat))) σ g) : WI P H pn Q fs (.op (some d) none (.slice false size x lo none) :: r) ρ σ g := i_out (by
  unfold loV at hlo
  simp only [AWop, hx, hlo, Option.map_none]
  exact ⟨h0, h2, hw, h.out⟩)
end
theorem any_take_none {α : Type} {p : α → Bool} {l : List α} {k : Nat} (h : ∀ j, j < k → ∀ u, l[j]? = some u → p u = false) : (l.take k).any p = false := by
  rw [Bool.eq_false_iff]
  intro e
  obtain ⟨x, h1, h2⟩ := List.any_eq_true.1 e
  obtain ⟨j, hj, e⟩ := List.getElem_of_mem h1
  have hj' : j < k := by simp at hj; omega
  have : l[j]? = some x := by
    rw [← e, List.getElem_take]
    exact List.getElem?_eq_getElem (by simp at hj; omega)
  rw [h j hj' x this] at h2
  cases h2
theorem any_take_hit {α : Type} {p : α → Bool} {l : List α} {k j : Nat} {u : α} (hj : j < k) (hu : l[j]? = some u) (hp : p u = true) : (l.take k).any p = true := by
  refine List.any_eq_true.2 ⟨u, ?_, hp⟩
  have : (l.take k)[j]? = some u := by rw [List.getElem?_take, if_pos hj, hu]
  exact List.mem_of_getElem? this
section
variable {G : Type} {P : Program} {H : HT G} {pn : List Nat} {Q : Exit → Env → Store → G → Prop} {fs : List (Frm G)} {ρ : Env} {σ : Store} {g : G} {r : List GItem} {d : Nat} {dst : Option Nat} {a b : Cmd} {v : V} {o : AOp}
theorem i_addw {k : IntKind} {m n q : Int} {st : Bool} {et : List LT} {x y : Opd} (hk : kEq k k = true) (hx : ev ρ x = .int k m) (hy : ev ρ y = .int k n) (hq : k.wrap (m + n) = q) (h : WI P H pn Q fs r (upd ρ d (.int k q)) σ g) :
    WI P H pn Q fs (.op (some d) none (.bin .add st et x y) :: r) ρ σ g := i_out (by
  simp only [AWop, hx, hy, abin, hk, cond_true]
  exact hq ▸ h.out)
theorem wrap_inc {c : Int} (h : InR .i64 c) : IntKind.i64.wrap (c + 1) = if c = 9223372036854775807 then -9223372036854775808 else c + 1 := by
  split
  · rename_i e; subst e; rfl
  · rename_i e
    exact wrap_id (k := .i64) ⟨by have := h.1; omega, by have := h.2; omega⟩
end
theorem supers_len {l : List Typ} : ∀ (n : Nat) (t : Int), (supersN l n t).length ≤ n + 1
  | 0, _ => by simp [supersN]
  | n + 1, t => by
    simp only [supersN]
    split
    · simp
    · have := supers_len (l := l) n (parentOf l t)
      simp only [List.length_cons]; omega
theorem supers_length {l : List Typ} {t : Int} (h : t < l.length) (hv : TyValid l) : (supers l t).length ≤ 10 := by
  have := supers_len (l := l) (t.toNat + 1) t
  have := hv.1
  unfold supers
  omega
theorem sumN_mem {f : Nat → Nat} : ∀ {l : List Int} {c : Int}, c ∈ l → f c.toNat ≤ sumN f l
  | a :: l, c, h => by
    simp only [sumN]
    rcases List.mem_cons.1 h with rfl | h
    · omega
    · have := sumN_mem (f := f) h; omega
theorem chn_nn {l : List Sx} {i : Nat} (h : chTo l i) : ∀ (r : List Int) (a e : Int), 0 ≤ a → a ≤ i → chn l a r = some e → 0 ≤ e
  | [], a, e, ha, _, hh => by cases hh; exact ha
  | c :: r, a, e, ha, hai, hh => by
    simp only [chn] at hh
    split at hh
    · cases hh
    · rename_i hc
      simp only [not_or, Decidable.not_not] at hc
      have := sz_leC c.toNat i h (by omega)
      have hp := sz_pos l c.toNat
      exact chn_nn h r _ _ (by omega) (by omega) hh
theorem chn_snoc {l : List Sx} : ∀ (xs : List Int) (a c : Int), chn l a (xs ++ [c]) = match chn l a xs with
    | none => none
    | some e => if c < 0 ∨ c ≠ e - 1 then none else some (e - sz l c.toNat)
  | [], a, c => by simp only [List.nil_append, chn]
  | x :: xs, a, c => by
    simp only [List.cons_append, chn]
    split
    · rfl
    · exact chn_snoc xs _ c
theorem chn_none {l : List Sx} : ∀ (xs ys : List Int) (a : Int), chn l a xs = none → chn l a (xs ++ ys) = none
  | [], ys, a, h => by cases h
  | x :: xs, ys, a, h => by
    simp only [List.cons_append, chn] at h ⊢
    split
    · rfl
    · rename_i hc
      rw [if_neg hc] at h
      exact chn_none xs ys _ h
theorem sumN_take (f : Nat → Nat) : ∀ (l : List Int) (k : Nat), sumN f (l.take k) ≤ sumN f l
  | [], k => by simp [sumN]
  | a :: l, 0 => by simp [sumN]
  | a :: l, k + 1 => by have := sumN_take f l k; simp only [List.take_succ_cons, sumN]; omega
end Hm
end
