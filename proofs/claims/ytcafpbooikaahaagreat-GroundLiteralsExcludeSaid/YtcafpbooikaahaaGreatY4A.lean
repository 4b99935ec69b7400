/- Part Y4A of the proof. -/
import Derived.Test.YtcafpbooikaahaaGreatYC
set_option linter.unusedVariables false
set_option linter.unusedSimpArgs false
section
namespace Hm
open Go
section
variable {G : Type} {P : Program} {H : HT G} {pn : List Nat} {Q : Exit → Env → Store → G → Prop} {fs : List (Frm G)} {ρ : Env} {σ : Store} {g : G} {r : List GItem} {d : Nat} {dst : Option Nat} {a b : Cmd} {v : V} {o : AOp}
theorem i_bslo {nm size : Nat} {xs : List Opd} {l : List V} (hs : σ nm = .unused) (hw : (Nat.beq (wd nm) size && Nat.beq (nm / 1099511627776) 0) = true) (hl : fzL (xs.map (ev ρ)) = some l) (hp : l.all (fun v => pureB v && rowB v && Nat.beq v.cells.length size) = true)
    (h : WI P H pn Q fs r (upd ρ d (.sl (.own nm) l)) (ups σ nm (.vec xs.length)) g) : WI P H pn Q fs (.op (some d) none (.bslO nm size xs) :: r) ρ σ g := i_out (by
  cases fzL_eq hl
  simp only [AWop, hs]
  exact ⟨hw, hp, h.out⟩)
end
section
variable {G : Type} {P : Program} {H : HT G} {pn : List Nat} {Q : Exit → Env → Store → G → Prop} {fs : List (Frm G)} {ρ : Env} {σ : Store} {g : G} {r : List GItem} {d : Nat} {dst : Option Nat} {a b : Cmd} {v : V} {o : AOp}
theorem i_sti {f : Int → V} {l : List Int} {nm gen gen' i : Nat} {v : Int} {x y : Opd} (hf : f = fun n => V.int .i64 n) (hx : ev ρ x = .ptr nm gen i 0) (hy : ev ρ y = .int .i64 v) (hs : σ nm = .arr gen' (l.map f)) (hg : gen = gen') (hi : i < l.length)
    (h : WI P H pn Q fs r (put ρ dst (.tup [])) (ups σ nm (.arr gen ((l.set i v).map f))) g) : WI P H pn Q fs (.op dst none (.store 1 x y) :: r) ρ σ g := by
  subst hf
  refine i_stp (row := .int .i64 l[i]) (row' := .int .i64 v) hx hs hg (by simp [hi]) (by rw [hy]; rfl) (by rw [hy]; rfl) ?_
  rw [List.map_set] at h
  exact h
end
theorem ne_ok {f : Flt} (h : (!(f.code == 0 && (f.index == 0 && true))) = true) : f ≠ okF := by
  rw [ft_ok_iff] at h; simpa using h
theorem eq_ok' {f : Flt} (h : (f.code == 0 && (f.index == 0 && true)) = true) : f = okF := by
  rw [ft_ok_iff] at h; simpa using h
section
variable {G : Type} {P : Program} {H : HT G} {pn : List Nat} {Q : Exit → Env → Store → G → Prop} {fs : List (Frm G)} {ρ : Env} {σ : Store} {g : G} {r : List GItem} {d : Nat} {dst : Option Nat} {a b : Cmd} {v : V} {o : AOp}
theorem i_shr {k k' : IntKind} {m n q : Int} {st : Bool} {et : List LT} {x y : Opd}
    (hx : ev ρ x = .int k m) (hy : ev ρ y = .int k' n) (h0 : 0 ≤ n) (hq : m.fdiv (2 ^ (min n.toNat k.bits)) = q) (h : WI P H pn Q fs r (upd ρ d (.int k q)) σ g) :
    WI P H pn Q fs (.op (some d) none (.bin .shr st et x y) :: r) ρ σ g := i_out (by
  simp only [AWop, hx, hy, abin]
  exact ⟨h0, hq ▸ h.out⟩)
end
end Hm
end
