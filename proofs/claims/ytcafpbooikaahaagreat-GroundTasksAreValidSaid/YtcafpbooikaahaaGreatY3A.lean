/- Part Y3A of the proof. -/
import Derived.Test.YtcafpbooikaahaaGreatYC
set_option linter.unusedVariables false
set_option linter.unusedSimpArgs false
section
namespace Hm
open Go
section
variable {G : Type} {P : Program} {H : HT G} {pn : List Nat} {Q : Exit → Env → Store → G → Prop} {fs : List (Frm G)} {ρ : Env} {σ : Store} {g : G} {r : List GItem} {d : Nat} {dst : Option Nat} {a b : Cmd} {v : V} {o : AOp}
theorem i_shr {k k' : IntKind} {m n q : Int} {st : Bool} {et : List LT} {x y : Opd}
    (hx : ev ρ x = .int k m) (hy : ev ρ y = .int k' n) (h0 : 0 ≤ n) (hq : m.fdiv (2 ^ (min n.toNat k.bits)) = q) (h : WI P H pn Q fs r (upd ρ d (.int k q)) σ g) :
    WI P H pn Q fs (.op (some d) none (.bin .shr st et x y) :: r) ρ σ g := i_out (by
  simp only [AWop, hx, hy, abin]
  exact ⟨h0, hq ▸ h.out⟩)
end
theorem memO_sorted (d : Dom) (t : Int) : (memO d t).Pairwise (· < ·) := by
  unfold memO membersOf
  refine List.Pairwise.map _ (fun a b h => ?_) (List.Pairwise.filter _ List.pairwise_lt_range)
  exact Int.ofNat_lt.2 h
theorem argL_nodup (d : Dom) : ∀ ts : List Int, (argL d ts).Nodup
  | [] => by simp [argL]
  | t :: r => by
    simp only [argL]
    unfold List.Nodup
    rw [List.pairwise_flatMap]
    refine ⟨fun o _ => ?_, ?_⟩
    · exact List.Pairwise.map _ (fun a b h e => h (by cases e; rfl)) (argL_nodup d r)
    · refine (memO_sorted d t).imp fun {a b} h x hx y hy e => ?_
      obtain ⟨u, _, rfl⟩ := List.mem_map.1 hx
      obtain ⟨v, _, rfl⟩ := List.mem_map.1 hy
      cases e
      omega
theorem allAt_nodup (d : Dom) : (allAt d).Nodup := by
  unfold allAt atomsK List.Nodup
  rw [List.pairwise_flatMap]
  refine ⟨fun p hp => ?_, ?_⟩
  · obtain ⟨x, hx⟩ := get_some (List.mem_range.1 hp)
    rw [predAt_some hx]
    exact List.Pairwise.map _ (fun a b h e => h (by cases e; rfl)) (argL_nodup d x.types)
  · refine List.pairwise_lt_range.imp fun {i j} h x hx y hy e => ?_
    have h1 := predAt_pred hx
    have h2 := predAt_pred hy
    rw [e, h2] at h1
    omega
theorem factL_nodup (d : Dom) : (factL d).Nodup := by
  unfold factL
  rw [posK_eq, negK_eq]
  refine List.nodup_append.2 ⟨?_, ?_, ?_⟩
  · exact List.Pairwise.map _ (fun a b h e => h (by cases e; rfl)) ((allAt_nodup d).filter _)
  · exact List.Pairwise.map _ (fun a b h e => h (by cases e; rfl)) ((allAt_nodup d).filter _)
  · intro x hx y hy e
    obtain ⟨a, _, rfl⟩ := List.mem_map.1 hx
    obtain ⟨b, _, rfl⟩ := List.mem_map.1 hy
    cases e
end Hm
end
