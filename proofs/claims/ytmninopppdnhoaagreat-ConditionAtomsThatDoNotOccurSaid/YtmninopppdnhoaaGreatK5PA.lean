/- Part K5PA of the proof. -/
import Derived.Test.YtmninopppdnhoaaGreatKPB
set_option linter.unusedVariables false
set_option linter.unusedSimpArgs false
section
namespace Hm
open Go
set_option maxRecDepth 100000
set_option maxHeartbeats 4000000
theorem argsFault_code (d : Dom) (c : Cnd) (args : List Int) : (argsFault d c args).code = 0 ↔ argsFault d c args = okF := by
  unfold argsFault
  split
  · simp [okF]
  · split
    · rename_i f hf
      exact ⟨fun h => absurd h (argBadC_code hf), fun h => absurd (congrArg Flt.code h) (argBadC_code hf)⟩
    · simp [okF]
theorem groundFault_code (d : Dom) (l : List At) : (groundFault d l).code = 0 ↔ groundFault d l = okF := by
  unfold groundFault
  split
  · rename_i h; exact ⟨fun h1 => absurd h1 h, fun h1 => absurd (congrArg Flt.code h1) h⟩
  · simp [okF]
end Hm
end
section
namespace Hm
open Go
theorem in_int {H : Type} {n : Nat} {d : DataW H} (h : wt Go.Proofs.Tryz.prog n 3 d) : ∃ m, dv d = .int .i64 m ∧ InR .i64 m := by
  obtain ⟨m, rfl, hm⟩ := wt_int Go.Proofs.Tryz.underlying3 h
  exact ⟨m, rfl, hm⟩
theorem truF_congr {d : Dom} {l : List Cn} {A B : List At} (h : ∀ n ∈ l, n.kind = 2 → ∀ args, (bindA args n.at_ ∈ A ↔ bindA args n.at_ ∈ B)) : ∀ (f i : Nat) (args : List Int), truF d l A f i args = truF d l B f i args
  | 0, _, _ => rfl
  | f + 1, i, args => by
    have ih := truF_congr (d := d) h f
    simp only [truF, ih]
    cases hn : l[i]? with
    | none => rfl
    | some n =>
      simp only
      by_cases k2 : n.kind = 2
      · rw [if_pos k2, if_pos k2]
        have := h n (mem_get hn) k2 args
        rw [Bool.eq_iff_iff, decide_eq_true_iff, decide_eq_true_iff]
        exact this
      · rw [if_neg k2, if_neg k2]
theorem tru_congr {d : Dom} {l : List Cn} {A B : List At} (h : ∀ n ∈ l, n.kind = 2 → ∀ args, (bindA args n.at_ ∈ A ↔ bindA args n.at_ ∈ B)) (i : Nat) (args : List Int) : tru d l A i args = tru d l B i args := truF_congr h _ _ _
def rstA (p : Int) (A : List At) : List At := A.filter fun a => decide (a.pred ≠ p)
theorem rstA_tru {d : Dom} {l : List Cn} {A : List At} {p : Int} (h : ∀ n ∈ l, ¬ (n.kind = 2 ∧ n.at_.pred = p)) (i : Nat) (args : List Int) : tru d l (rstA p A) i args = tru d l A i args := by
  refine tru_congr (fun n hn k2 args => ?_) i args
  unfold rstA
  rw [List.mem_filter]
  have : (bindA args n.at_).pred ≠ p := fun e => h n hn ⟨k2, e⟩
  simp [this]
theorem rstA_mem {p : Int} {A : List At} {a : At} (h : a ∈ rstA p A) : a ∈ A := (List.mem_filter.1 h).1
theorem rstA_len {p : Int} {A : List At} : (rstA p A).length ≤ A.length := List.length_filter_le _ _
end Hm
end
