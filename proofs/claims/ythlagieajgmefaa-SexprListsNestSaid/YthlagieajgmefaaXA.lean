/- The program of this seat, and the stepping layer. -/
import Derived.Test.YthlagieajgmefaaCoreC
import Derived.Test.YthlagieajgmefaaProg
import Derived.ProofKit
section
/- The program of this seat, and the stepping layer. -/
namespace Hm
set_option linter.unusedVariables false
set_option linter.unusedSimpArgs false
open Go
theorem mixed : Go.Proofs.Try.prog.follows .mixedOrders = true := by kernel_rfl
end Hm
end

section
/- Faults, in plain terms. No program in sight. -/
namespace Hm
set_option linter.unusedVariables false
set_option linter.unusedSimpArgs false
open Go
structure Flt where
  code : Int
  index : Int
instance : DecidableEq Flt := fun a b => if h : a.code = b.code ∧ a.index = b.index then isTrue (by cases a; cases b; simp only at h; rw [h.1, h.2]) else isFalse (by rintro rfl; exact h ⟨rfl, rfl⟩)
def ftV (f : Flt) : V := .agg [.int .i64 f.code, .int .i64 f.index]
def okF : Flt := ⟨0, 0⟩
def i64V (n : Int) : V := .int .i64 n
theorem congr_ft {f : Flt} {c i : Int} (h : f = ⟨c, i⟩) : ftV f = .agg [.int .i64 c, .int .i64 i] := by rw [h]; rfl
theorem flt_eta (f : Flt) : (⟨f.code, f.index⟩ : Flt) = f := rfl
theorem ft_ok_iff (f : Flt) : (f.code == 0 && (f.index == 0 && true)) = decide (f = okF) := by
  cases f with
  | mk c i =>
    simp only [okF, Flt.mk.injEq, Bool.and_true]
    by_cases h1 : c = 0 <;> by_cases h2 : i = 0 <;> simp [h1, h2]
theorem ne_ok {f : Flt} (h : (!(f.code == 0 && (f.index == 0 && true))) = true) : f ≠ okF := by
  rw [ft_ok_iff] at h; simpa using h
theorem eq_ok {f : Flt} (h : (!(f.code == 0 && (f.index == 0 && true))) = false) : f = okF := by
  rw [ft_ok_iff] at h; simpa using h
theorem eq_ok' {f : Flt} (h : (f.code == 0 && (f.index == 0 && true)) = true) : f = okF := by
  rw [ft_ok_iff] at h; simpa using h
theorem ne_ok' {f : Flt} (h : (f.code == 0 && (f.index == 0 && true)) = false) : f ≠ okF := by
  rw [ft_ok_iff] at h; simpa using h
def fidx {α : Type} (p : α → Bool) (l : List α) : Int := match l.findIdx? p with
  | some i => i
  | none => -1
theorem fidx_hit {α : Type} {p : α → Bool} {l : List α} {k : Nat} {c : α} (h : ∀ j, j < k → ∀ c, l[j]? = some c → p c = false) (hc : l[k]? = some c) (hp : p c = true) : fidx p l = k := by
  have : l.findIdx? p = some k := by
    rw [List.findIdx?_eq_some_iff_getElem]
    have hk := get_lt hc
    refine ⟨hk, ?_, fun j hj => ?_⟩
    · rw [List.getElem?_eq_getElem hk] at hc; injection hc with hc; rw [hc]; exact hp
    · simp [h j hj _ (List.getElem?_eq_getElem (by omega))]
  simp [fidx, this]
theorem fidx_none {α : Type} {p : α → Bool} {l : List α} (h : ∀ j, j < l.length → ∀ c, l[j]? = some c → p c = false) : fidx p l = -1 := by
  have : l.findIdx? p = none := by
    rw [List.findIdx?_eq_none_iff]
    intro x hx
    obtain ⟨j, hj, e⟩ := List.getElem_of_mem hx
    exact h j hj x (by rw [← e]; exact List.getElem?_eq_getElem hj)
  simp [fidx, this]
theorem fidx_any {α : Type} (p : α → Bool) (l : List α) : decide (fidx p l ≥ 0) = l.any p := by
  unfold fidx
  cases h : l.findIdx? p with
  | none =>
    rw [List.findIdx?_eq_none_iff] at h
    have : l.any p = false := by
      rw [Bool.eq_false_iff]
      intro e
      obtain ⟨x, h1, h2⟩ := List.any_eq_true.1 e
      rw [h x h1] at h2
      cases h2
    rw [this]; rfl
  | some k =>
    rw [List.findIdx?_eq_some_iff_getElem] at h
    obtain ⟨h1, h2, _⟩ := h
    have : l.any p = true := List.any_eq_true.2 ⟨_, List.getElem_mem h1, h2⟩
    rw [this]
    simp
end Hm
end

section
/- Contracts: small functions of the references. -/
namespace Hm
open Go
set_option maxRecDepth 100000
set_option maxHeartbeats 1000000
set_option linter.unusedSimpArgs false
set_option linter.unusedVariables false
def c_R1_In : Cmd :=
  (.seq
   (.ops [
   .op (some 6) none (.mov (.c (.bool false)))])
   (.cut
   (.seq
   (.ops [
   .op (some 7) none (.mov (.t 0)),
   .op (some 8) none (.mov (.t 1)),
   .op (some 9) none (.bin .geq false [] (.t 7) (.t 8)),
   .op (some 10) none (.mov (.t 9)),
   .op (some 11) (some (10, true)) (.mov (.t 0)),
   .op (some 12) (some (10, true)) (.mov (.t 2)),
   .op (some 13) (some (10, true)) (.bin .leq false [] (.t 11) (.t 12)),
   .op (some 14) none (.pick (.t 10) (.t 13) (.c (.bool false))),
   .op (some 6) none (.mov (.t 14))])
   .ret)))
def r_R1_In : List RVar := [.tmp 6]
def n_R1_In : Nat := 15
theorem k_R1_In : chkFn Go.Proofs.Try.prog 18 n_R1_In r_R1_In c_R1_In = true := by kernel_rfl
theorem f_R1_In (x lo hi : Int) : Fc Go.Proofs.Try.prog 18 [.int .i64 x, .int .i64 lo, .int .i64 hi] (.bool (decide (lo ≤ x) && decide (x ≤ hi))) := by
  refine Fn.step mixed k_R1_In ?_
  repeat' (first | refine i_len rfl ?_ | refine i_s rfl ?_ | refine i_lenm rfl rfl rfl ?_ | refine c_seq ?_ | refine c_cut0 ?_ | refine c_ops ?_ | refine i_nil ?_ | refine e_seq ?_ | refine e_block ?_ | refine c_block ?_ | refine c_skip ?_ | refine c_ret ?_ | refine c_exit ?_ | refine e_exit rfl ?_ | refine i_s0 rfl ?_ | refine c_leaf ?_ | refine i_gt rfl ?_ | refine i_gf rfl ?_ | refine i_gd rfl ?_ | refine c_t rfl ?_ | refine c_f rfl ?_ | refine i_conv rfl (by simp only [InR, List.length_map]; omega) ?_ | refine i_add rfl rfl (by simp only [InR, List.length_map]; omega) ?_ | refine i_sub rfl rfl (by simp only [InR, List.length_map]; omega) ?_ | refine i_ixm rfl rfl (by assumption) ?_ | refine i_iai rfl rfl (by omega) (by assumption) rfl ?_ | refine i_iam rfl rfl (by assumption) rfl ?_ | refine i_tk rfl rfl (by omega) ?_ | refine i_stb rfl ?_ | refine i_alloc rfl ?_ | refine i_box rfl rfl ?_ | refine i_nv rfl ?_ | refine c_node ?_ ?_ | refine i_g rfl (fun h => ?_) (fun h => ?_) | refine c_cond rfl (fun h => ?_) (fun h => ?_))
  all_goals refine e_ret ⟨rfl, _, rfl, congrArg V.bool ?_⟩
  · have := of_decide_eq_true h; simp; omega
  · have := of_decide_eq_false h; simp; omega
def c_R1_At : Cmd :=
  (.seq
   (.ops [
   .op (some 4) none (.alloc 1088258 (.agg [.int .i64 (0), .int .i64 (0)]))])
   (.cut
   (.seq
   (.ops [
   .op (some 5) none (.mov (.t 0)),
   .op (some 6) none (.mov (.t 1)),
   .op (some 7) none (.build [.int .i64 (0), .int .i64 (0)] [(0, 1, .t 5), (1, 1, .t 6)]),
   .op none none (.store 2 (.t 4) (.t 7))])
   .ret)))
def r_R1_At : List RVar := [.cell true 2 4]
def n_R1_At : Nat := 8
theorem k_R1_At : chkFn Go.Proofs.Try.prog 17 n_R1_At r_R1_At c_R1_At = true := by kernel_rfl
theorem f_R1_At (c i : Int) : Fc Go.Proofs.Try.prog 17 [.int .i64 c, .int .i64 i] (.agg [.int .i64 c, .int .i64 i]) := by
  refine Fn.step mixed k_R1_At ?_
  repeat' (first | refine i_len rfl ?_ | refine i_s rfl ?_ | refine i_lenm rfl rfl rfl ?_ | refine c_seq ?_ | refine c_cut0 ?_ | refine c_ops ?_ | refine i_nil ?_ | refine e_seq ?_ | refine e_block ?_ | refine c_block ?_ | refine c_skip ?_ | refine c_ret ?_ | refine c_exit ?_ | refine e_exit rfl ?_ | refine i_s0 rfl ?_ | refine c_leaf ?_ | refine i_gt rfl ?_ | refine i_gf rfl ?_ | refine i_gd rfl ?_ | refine c_t rfl ?_ | refine c_f rfl ?_ | refine i_conv rfl (by simp only [InR, List.length_map]; omega) ?_ | refine i_add rfl rfl (by simp only [InR, List.length_map]; omega) ?_ | refine i_sub rfl rfl (by simp only [InR, List.length_map]; omega) ?_ | refine i_ixm rfl rfl (by assumption) ?_ | refine i_iai rfl rfl (by omega) (by assumption) rfl ?_ | refine i_iam rfl rfl (by assumption) rfl ?_ | refine i_tk rfl rfl (by omega) ?_ | refine i_stb rfl ?_ | refine i_alloc rfl ?_ | refine i_box rfl rfl ?_ | refine i_nv rfl ?_ | refine c_node ?_ ?_ | refine i_g rfl (fun h => ?_) (fun h => ?_) | refine c_cond rfl (fun h => ?_) (fun h => ?_))
  exact e_ret ⟨rfl, _, rfl, rfl⟩
def c_R1_Ints : Cmd :=
  (.seq
   (.ops [
   .op (some 4) none (.mov (.c (.bool false)))])
   (.cut
   (.seq
   (.seq
   (.ops [
   .op (some 6) none (.mov (.t 0)),
   .op (some 7) none (.len false (.t 6)),
   .op (some 8) none (.mov (.t 1)),
   .op (some 9) none (.len false (.t 8)),
   .op (some 10) none (.bin .neq false [.i] (.t 7) (.t 9))])
   (.cut
   (.cond (.t 10)
   (.seq
   (.ops [
   .op (some 4) none (.mov (.c (.bool false)))])
   .ret)
   .skip)))
   (.cut
   (.seq
   (.seq
   (.ops [
   .op (some 5) none (.mov (.c (.int .i64 (0))))])
   (.cut
   (.block 0
   (.loop
   (.seq
   (.seq
   (.ops [
   .op (some 11) none (.mov (.t 5)),
   .op (some 12) none (.mov (.t 0)),
   .op (some 13) none (.len false (.t 12)),
   .op (some 14) none (.bin .lss false [] (.t 11) (.t 13))])
   (.cut
   (.cond (.t 14)
   .skip
   (.exit 0))))
   (.cut
   (.seq
   (.block 1
   (.seq
   (.ops [
   .op (some 17) none (.mov (.t 0)),
   .op (some 18) none (.mov (.t 5)),
   .op (some 19) none (.iaddr 1 (.t 17) (.t 18)),
   .op (some 20) none (.load false 1 (.t 19)),
   .op (some 21) none (.mov (.t 1)),
   .op (some 22) none (.mov (.t 5)),
   .op (some 23) none (.iaddr 1 (.t 21) (.t 22)),
   .op (some 24) none (.load false 1 (.t 23)),
   .op (some 25) none (.bin .neq false [.i] (.t 20) (.t 24))])
   (.cut
   (.cond (.t 25)
   (.seq
   (.ops [
   .op (some 4) none (.mov (.c (.bool false)))])
   .ret)
   .skip))))
   (.cut
   (.ops [
   .op (some 15) none (.mov (.t 5)),
   .op (some 16) none (.bin .add false [] (.t 15) (.c (.int .i64 (1)))),
   .op (some 5) none (.mov (.t 16))])))))))))
   (.cut
   (.seq
   (.ops [
   .op (some 4) none (.mov (.c (.bool true)))])
   .ret)))))))
def r_R1_Ints : List RVar := [.tmp 4]
def n_R1_Ints : Nat := 26
theorem k_R1_Ints : chkFn Go.Proofs.Try.prog 16 n_R1_Ints r_R1_Ints c_R1_Ints = true := by kernel_rfl
theorem f_R1_Ints (xs ys : List Int) (hl : xs.length ≤ 140737488355328) : Fc Go.Proofs.Try.prog 16 [.sl .p (xs.map i64V), .sl .p (ys.map i64V)] (.bool (decide (xs = ys))) := by
  refine Fn.step mixed k_R1_Ints ?_
  repeat' (first | refine i_len rfl ?_ | refine i_s rfl ?_ | refine i_lenm rfl rfl rfl ?_ | refine c_seq ?_ | refine c_cut0 ?_ | refine c_ops ?_ | refine i_nil ?_ | refine e_seq ?_ | refine e_block ?_ | refine c_block ?_ | refine c_skip ?_ | refine c_ret ?_ | refine c_exit ?_ | refine e_exit rfl ?_ | refine i_s0 rfl ?_ | refine c_leaf ?_ | refine i_gt rfl ?_ | refine i_gf rfl ?_ | refine i_gd rfl ?_ | refine c_t rfl ?_ | refine c_f rfl ?_ | refine i_conv rfl (by simp only [InR, List.length_map]; omega) ?_ | refine i_add rfl rfl (by simp only [InR, List.length_map]; omega) ?_ | refine i_sub rfl rfl (by simp only [InR, List.length_map]; omega) ?_ | refine i_ixm rfl rfl (by assumption) ?_ | refine i_iai rfl rfl (by omega) (by assumption) rfl ?_ | refine i_iam rfl rfl (by assumption) rfl ?_ | refine i_tk rfl rfl (by omega) ?_ | refine i_stb rfl ?_ | refine i_alloc rfl ?_ | refine i_box rfl rfl ?_ | refine i_nv rfl ?_ | refine c_node ?_ ?_ | refine i_g rfl (fun h => ?_) (fun h => ?_) | refine c_cond rfl (fun h => ?_) (fun h => ?_))
  · have e : xs.length ≠ ys.length := by simp at h; omega
    refine e_ret ⟨rfl, _, rfl, congrArg V.bool (decide_eq_false fun e' => e (by rw [e']))⟩
  have e : xs.length = ys.length := by simp at h; omega
  refine c_for xs.length (fun k => [(0, .sl .p (xs.map i64V)), (1, .sl .p (ys.map i64V)), (5, .int .i64 k)]) (fun _ => []) (fun k => xs.take k = ys.take k) (by simp) ⟨by repeat (first | exact trivial | refine ⟨rfl, ?_⟩), by repeat (first | exact trivial | refine ⟨rfl, ?_⟩), rfl⟩ fun k hk hi => ?_
  repeat (first | refine i_len rfl ?_ | refine i_s rfl ?_ | refine i_lenm rfl rfl rfl ?_ | refine c_seq ?_ | refine c_cut0 ?_ | refine c_ops ?_ | refine i_nil ?_ | refine e_seq ?_ | refine e_block ?_ | refine c_block ?_ | refine c_skip ?_ | refine c_ret ?_ | refine c_exit ?_ | refine e_exit rfl ?_ | refine i_s0 rfl ?_ | refine c_leaf ?_ | refine i_gt rfl ?_ | refine i_gf rfl ?_ | refine i_gd rfl ?_ | refine c_t rfl ?_ | refine c_f rfl ?_ | refine i_conv rfl (by simp only [InR, List.length_map]; omega) ?_ | refine i_add rfl rfl (by simp only [InR, List.length_map]; omega) ?_ | refine i_sub rfl rfl (by simp only [InR, List.length_map]; omega) ?_ | refine i_ixm rfl rfl (by assumption) ?_ | refine i_iai rfl rfl (by omega) (by assumption) rfl ?_ | refine i_iam rfl rfl (by assumption) rfl ?_ | refine i_tk rfl rfl (by omega) ?_ | refine i_stb rfl ?_ | refine i_alloc rfl ?_ | refine i_box rfl rfl ?_ | refine i_nv rfl ?_)
  refine c_cond rfl (fun h => ?_) (fun h => ?_)
  · have hlt : k < xs.length := by simpa using h
    obtain ⟨c, hc⟩ := get_some hlt
    obtain ⟨c', hc'⟩ := get_some (e ▸ hlt)
    repeat' (first | refine i_len rfl ?_ | refine i_s rfl ?_ | refine i_lenm rfl rfl rfl ?_ | refine c_seq ?_ | refine c_cut0 ?_ | refine c_ops ?_ | refine i_nil ?_ | refine e_seq ?_ | refine e_block ?_ | refine c_block ?_ | refine c_skip ?_ | refine c_ret ?_ | refine c_exit ?_ | refine e_exit rfl ?_ | refine i_s0 rfl ?_ | refine c_leaf ?_ | refine i_gt rfl ?_ | refine i_gf rfl ?_ | refine i_gd rfl ?_ | refine c_t rfl ?_ | refine c_f rfl ?_ | refine i_conv rfl (by simp only [InR, List.length_map]; omega) ?_ | refine i_add rfl rfl (by simp only [InR, List.length_map]; omega) ?_ | refine i_sub rfl rfl (by simp only [InR, List.length_map]; omega) ?_ | refine i_ixm rfl rfl (by assumption) ?_ | refine i_iai rfl rfl (by omega) (by assumption) rfl ?_ | refine i_iam rfl rfl (by assumption) rfl ?_ | refine i_tk rfl rfl (by omega) ?_ | refine i_stb rfl ?_ | refine i_alloc rfl ?_ | refine i_box rfl rfl ?_ | refine i_nv rfl ?_ | refine c_node ?_ ?_ | refine i_g rfl (fun h => ?_) (fun h => ?_) | refine c_cond rfl (fun h => ?_) (fun h => ?_))
    · refine e_ret ⟨rfl, _, rfl, congrArg V.bool (decide_eq_false fun e' => ?_)⟩
      subst e'
      rw [hc] at hc'
      cases hc'
      simp at h
    · refine e_for hlt ?_ ⟨by repeat (first | exact trivial | refine ⟨rfl, ?_⟩), by repeat (first | exact trivial | refine ⟨rfl, ?_⟩), rfl⟩
      have e : c = c' := by simpa using h
      rw [take_succ_get hc, take_succ_get hc', hi, e]
  · have hge : ¬ k < xs.length := by simpa using h
    rw [List.take_of_length_le (by omega), List.take_of_length_le (by omega)] at hi
    repeat' (first | refine i_len rfl ?_ | refine i_s rfl ?_ | refine i_lenm rfl rfl rfl ?_ | refine c_seq ?_ | refine c_cut0 ?_ | refine c_ops ?_ | refine i_nil ?_ | refine e_seq ?_ | refine e_block ?_ | refine c_block ?_ | refine c_skip ?_ | refine c_ret ?_ | refine c_exit ?_ | refine e_exit rfl ?_ | refine i_s0 rfl ?_ | refine c_leaf ?_ | refine i_gt rfl ?_ | refine i_gf rfl ?_ | refine i_gd rfl ?_ | refine c_t rfl ?_ | refine c_f rfl ?_ | refine i_conv rfl (by simp only [InR, List.length_map]; omega) ?_ | refine i_add rfl rfl (by simp only [InR, List.length_map]; omega) ?_ | refine i_sub rfl rfl (by simp only [InR, List.length_map]; omega) ?_ | refine i_ixm rfl rfl (by assumption) ?_ | refine i_iai rfl rfl (by omega) (by assumption) rfl ?_ | refine i_iam rfl rfl (by assumption) rfl ?_ | refine i_tk rfl rfl (by omega) ?_ | refine i_stb rfl ?_ | refine i_alloc rfl ?_ | refine i_box rfl rfl ?_ | refine i_nv rfl ?_ | refine c_node ?_ ?_ | refine i_g rfl (fun h => ?_) (fun h => ?_) | refine c_cond rfl (fun h => ?_) (fun h => ?_))
    exact e_ret ⟨rfl, _, rfl, congrArg V.bool (decide_eq_true hi)⟩
end Hm
end

section
/- Contracts: subsets. -/
namespace Hm
open Go
set_option maxRecDepth 100000
set_option maxHeartbeats 1000000
set_option linter.unusedSimpArgs false
set_option linter.unusedVariables false
end Hm
end

section
/- Expressions in parentheses: validity and text, in plain terms. No program in sight. -/
namespace Hm
set_option linter.unusedVariables false
set_option linter.unusedSimpArgs false
open Go
structure Sx where
  sym : List UInt8
  ch : List Int
def sxV (n : Sx) : V := .agg [.str n.sym, .sl .p (n.ch.map i64V)]
def others : List UInt8 := [45, 95, 63, 58, 61, 60, 62, 43, 42, 47, 46]
def symB (c : UInt8) : Bool := (decide (97 ≤ c.toNat) && decide (c.toNat ≤ 122)) || (decide (65 ≤ c.toNat) && decide (c.toNat ≤ 90)) || (decide (48 ≤ c.toNat) && decide (c.toNat ≤ 57)) || decide (c ∈ others)
def symbolB (s : List UInt8) : Bool := s.all symB && (decide (1 ≤ s.length) && decide (s.length ≤ 12))
def chL (l : List Sx) (i : Nat) : List Int := match l[i]? with
  | some n => n.ch
  | none => []
def sumN (f : Nat → Nat) : List Int → Nat
  | [] => 0
  | c :: r => f c.toNat + sumN f r
def maxN (f : Nat → Nat) : List Int → Nat
  | [] => 0
  | c :: r => max (f c.toNat) (maxN f r)
theorem sumN_snoc (f : Nat → Nat) : ∀ (l : List Int) (c : Int), sumN f (l ++ [c]) = sumN f l + f c.toNat
  | [], c => by simp [sumN]
  | a :: l, c => by simp only [List.cons_append, sumN, sumN_snoc f l c]; omega
theorem maxN_snoc (f : Nat → Nat) : ∀ (l : List Int) (c : Int), maxN f (l ++ [c]) = max (maxN f l) (f c.toNat)
  | [], c => by simp [maxN]
  | a :: l, c => by simp only [List.cons_append, maxN, maxN_snoc f l c]; omega
theorem sumN_congr {f g : Nat → Nat} : ∀ {l : List Int}, (∀ c ∈ l, f c.toNat = g c.toNat) → sumN f l = sumN g l
  | [], _ => rfl
  | a :: l, h => by simp only [sumN]; rw [h a (by simp), sumN_congr fun c hc => h c (by simp [hc])]
theorem maxN_congr {f g : Nat → Nat} : ∀ {l : List Int}, (∀ c ∈ l, f c.toNat = g c.toNat) → maxN f l = maxN g l
  | [], _ => rfl
  | a :: l, h => by simp only [maxN]; rw [h a (by simp), maxN_congr fun c hc => h c (by simp [hc])]
theorem sumN_rev (f : Nat → Nat) : ∀ l : List Int, sumN f l.reverse = sumN f l
  | [] => rfl
  | a :: l => by rw [List.reverse_cons, sumN_snoc, sumN_rev f l]; simp only [sumN]; omega
theorem maxN_rev (f : Nat → Nat) : ∀ l : List Int, maxN f l.reverse = maxN f l
  | [] => rfl
  | a :: l => by rw [List.reverse_cons, maxN_snoc, maxN_rev f l]; simp only [maxN]; omega
theorem sumN_mem {f : Nat → Nat} : ∀ {l : List Int} {c : Int}, c ∈ l → f c.toNat ≤ sumN f l
  | a :: l, c, h => by
    simp only [sumN]
    rcases List.mem_cons.1 h with rfl | h
    · omega
    · have := sumN_mem (f := f) h; omega
theorem maxN_mem {f : Nat → Nat} : ∀ {l : List Int} {c : Int}, c ∈ l → f c.toNat ≤ maxN f l
  | a :: l, c, h => by
    simp only [maxN]
    rcases List.mem_cons.1 h with rfl | h
    · omega
    · have := maxN_mem (f := f) h; omega
def szF (l : List Sx) : Nat → Nat → Nat
  | 0, _ => 1
  | f + 1, i => 1 + sumN (szF l f) (chL l i)
def dpF (l : List Sx) : Nat → Nat → Nat
  | 0, _ => 1
  | f + 1, i => 1 + maxN (dpF l f) (chL l i)
def sz (l : List Sx) (i : Nat) : Nat := szF l (i + 1) i
def dp (l : List Sx) (i : Nat) : Nat := dpF l (i + 1) i
/-- The children of a node, from the last on: where the next has to end. -/
def chn (l : List Sx) : Int → List Int → Option Int
  | at_, [] => some at_
  | at_, c :: r => if c < 0 ∨ c ≠ at_ - 1 then none else chn l (at_ - sz l c.toNat) r
def low (l : List Sx) (i : Nat) : Prop := ∀ c ∈ chL l i, 0 ≤ c ∧ c < i
def lowTo (l : List Sx) (n : Nat) : Prop := ∀ j, j < n → low l j
theorem szF_ok {l : List Sx} : ∀ (f i n : Nat), lowTo l n → i < n → i < f → szF l f i = sz l i
  | 0, i, n, _, _, h => by omega
  | f + 1, i, n, hl, hn, h => by
    unfold sz
    simp only [szF]
    congr 1
    refine sumN_congr fun c hc => ?_
    have := hl i hn c hc
    rw [szF_ok f c.toNat n hl (by omega) (by omega)]
    by_cases e : f = i
    · subst e
      exact (szF_ok f c.toNat n hl (by omega) (by omega)).symm
    · exact (szF_ok i c.toNat n hl (by omega) (by omega)).symm
termination_by f => f
theorem dpF_ok {l : List Sx} : ∀ (f i n : Nat), lowTo l n → i < n → i < f → dpF l f i = dp l i
  | 0, i, n, _, _, h => by omega
  | f + 1, i, n, hl, hn, h => by
    unfold dp
    simp only [dpF]
    congr 1
    refine maxN_congr fun c hc => ?_
    have := hl i hn c hc
    rw [dpF_ok f c.toNat n hl (by omega) (by omega)]
    by_cases e : f = i
    · subst e
      exact (dpF_ok f c.toNat n hl (by omega) (by omega)).symm
    · exact (dpF_ok i c.toNat n hl (by omega) (by omega)).symm
termination_by f => f
theorem sz_eq {l : List Sx} {i : Nat} (h : lowTo l (i + 1)) : sz l i = 1 + sumN (sz l) (chL l i) := by
  show szF l (i + 1) i = _
  simp only [szF]
  congr 1
  exact sumN_congr fun c hc => by
    have := h i (by omega) c hc
    exact szF_ok i c.toNat (i + 1) h (by omega) (by omega)
theorem dp_eq {l : List Sx} {i : Nat} (h : lowTo l (i + 1)) : dp l i = 1 + maxN (dp l) (chL l i) := by
  show dpF l (i + 1) i = _
  simp only [dpF]
  congr 1
  exact maxN_congr fun c hc => by
    have := h i (by omega) c hc
    exact dpF_ok i c.toNat (i + 1) h (by omega) (by omega)
theorem sz_pos (l : List Sx) (i : Nat) : 1 ≤ sz l i := by unfold sz; simp only [szF]; omega
theorem dp_pos (l : List Sx) (i : Nat) : 1 ≤ dp l i := by unfold dp; simp only [dpF]; omega
theorem chn_end {l : List Sx} : ∀ {r : List Int} {a e : Int}, chn l a r = some e → e = a - sumN (sz l) r ∧ ∀ c ∈ r, 0 ≤ c ∧ c < a
  | [], a, e, h => by cases h; simp [sumN]
  | c :: r, a, e, h => by
    simp only [chn] at h
    split at h
    · cases h
    · rename_i hc
      simp only [not_or, Decidable.not_not] at hc
      obtain ⟨h1, h2⟩ := chn_end h
      have hp := sz_pos l c.toNat
      refine ⟨by simp only [sumN]; omega, fun d hd => ?_⟩
      rcases List.mem_cons.1 hd with rfl | hd
      · omega
      · have := h2 d hd; omega
/-- .. which is never below nothing. -/
theorem chn_nonneg {l : List Sx} (hn : ∀ j : Nat, sz l j ≤ j + 1) : ∀ {r : List Int} {a e : Int}, 0 ≤ a → chn l a r = some e → 0 ≤ e
  | [], a, e, ha, h => by cases h; exact ha
  | c :: r, a, e, ha, h => by
    simp only [chn] at h
    split at h
    · cases h
    · rename_i hc
      simp only [not_or, Decidable.not_not] at hc
      have := hn c.toNat
      exact chn_nonneg hn (by omega) h
def shapeC (n : Sx) : Int := if n.sym = [] then 0 else if symbolB n.sym = false then 12 else if n.ch ≠ [] then 5 else 0
def nodeBad (l : List Sx) (i : Nat) : Option Flt := match l[i]? with
  | none => none
  | some n => if shapeC n ≠ 0 then some ⟨shapeC n, i⟩ else if (chn l i n.ch.reverse).isNone = true then some ⟨5, i⟩ else if dp l i > 12 then some ⟨10, i⟩ else none
def sxFault (l : List Sx) : Flt := if l.length = 0 ∨ l.length > 300 then ⟨2, -1⟩ else match scan (nodeBad l) 0 l.length with
  | some f => f
  | none => if sz l (l.length - 1) ≠ l.length then ⟨5, -1⟩ else okF
structure NV (l : List Sx) (i : Nat) (n : Sx) : Prop where
  shape : shapeC n = 0
  chain : ∃ e, chn l i n.ch.reverse = some e
  depth : dp l i ≤ 12
theorem nodeBad_none {l : List Sx} {i : Nat} {n : Sx} (hn : l[i]? = some n) : nodeBad l i = none ↔ NV l i n := by
  unfold nodeBad
  rw [hn]
  simp only
  constructor
  · intro h
    split at h
    · cases h
    · rename_i h1
      split at h
      · cases h
      · rename_i h2
        split at h
        · cases h
        · rename_i h3
          refine ⟨by simpa using h1, ?_, by omega⟩
          cases hc : chn l i n.ch.reverse with
          | none => rw [hc] at h2; exact absurd rfl h2
          | some e => exact ⟨e, rfl⟩
  · rintro ⟨h1, ⟨e, h2⟩, h3⟩
    rw [if_neg (by simp [h1]), if_neg (by simp [h2]), if_neg (by omega)]
theorem chL_get {l : List Sx} {i : Nat} {n : Sx} (h : l[i]? = some n) : chL l i = n.ch := by unfold chL; rw [h]
theorem NV.low {l : List Sx} {i : Nat} {n : Sx} (hn : l[i]? = some n) (h : NV l i n) : low l i := by
  obtain ⟨e, he⟩ := h.chain
  intro c hc
  rw [chL_get hn] at hc
  exact (chn_end he).2 c (List.mem_reverse.2 hc)
def okTo (l : List Sx) (n : Nat) : Prop := ∀ j, j < n → ∀ x, l[j]? = some x → NV l j x
theorem okTo.low {l : List Sx} {n : Nat} (h : okTo l n) : lowTo l n := fun j hj => by
  cases hx : l[j]? with
  | none => intro c hc; unfold chL at hc; rw [hx] at hc; simp at hc
  | some x => exact (h j hj x hx).low hx
theorem sz_le {l : List Sx} : ∀ (i n : Nat), okTo l n → i < n → sz l i ≤ i + 1 := by
  intro i
  induction i using Nat.strongRecOn with
  | ind i ih =>
    intro n h hn
    have hlow : lowTo l (i + 1) := fun j hj => h.low j (by omega)
    rw [sz_eq hlow]
    cases hx : l[i]? with
    | none => unfold chL; rw [hx]; simp [sumN]
    | some x =>
      obtain ⟨e, he⟩ := (h i hn x hx).chain
      have h1 := (chn_end he).1
      have h2 : 0 ≤ e := by
        have key : ∀ (r : List Int) (a e : Int), 0 ≤ a → a ≤ i → chn l a r = some e → 0 ≤ e := by
          intro r
          induction r with
          | nil => intro a e ha _ hh; cases hh; exact ha
          | cons c r ihr =>
            intro a e ha hai hh
            simp only [chn] at hh
            split at hh
            · cases hh
            · rename_i hc
              simp only [not_or, Decidable.not_not] at hc
              have := ih c.toNat (by omega) n h (by omega)
              have hp := sz_pos l c.toNat
              exact ihr _ _ (by omega) (by omega) hh
        exact key _ _ _ (by omega) (Int.le_refl _) he
      rw [sumN_rev] at h1
      rw [chL_get hx]
      omega
/-- Where the subtree of a node begins. -/
def fst_ (l : List Sx) (i : Nat) : Int := (i : Int) + 1 - sz l i
def joinF : List (List UInt8) → List UInt8
  | [] => []
  | [a] => a
  | a :: b :: r => a ++ 32 :: joinF (b :: r)
theorem joinF_snoc : ∀ (xs : List (List UInt8)) (a : List UInt8), joinF (xs ++ [a]) = (if xs = [] then a else joinF xs ++ 32 :: a)
  | [], a => rfl
  | [x], a => rfl
  | x :: y :: r, a => by
    have := joinF_snoc (y :: r) a
    simp only [List.cons_append, joinF] at this ⊢
    rw [this]
    simp
def txF (l : List Sx) : Nat → Nat → List UInt8
  | 0, _ => []
  | f + 1, i => match l[i]? with
    | none => []
    | some n => if n.sym = [] then 40 :: (joinF (n.ch.map fun c => txF l f c.toNat) ++ [41]) else n.sym
def tx (l : List Sx) (i : Nat) : List UInt8 := txF l (i + 1) i
theorem txF_ok {l : List Sx} : ∀ (f i n : Nat), lowTo l n → i < n → i < f → txF l f i = tx l i
  | 0, i, n, _, _, h => by omega
  | f + 1, i, n, hl, hn, h => by
    unfold tx
    simp only [txF]
    cases hx : l[i]? with
    | none => rfl
    | some x =>
      simp only
      have e : x.ch.map (fun c => txF l f c.toNat) = x.ch.map (fun c => txF l i c.toNat) := List.map_congr_left fun c hc => by
        have := hl i hn c (by rw [chL_get hx]; exact hc)
        rw [txF_ok f c.toNat n hl (by omega) (by omega)]
        by_cases e : f = i
        · subst e
          exact (txF_ok f c.toNat n hl (by omega) (by omega)).symm
        · exact (txF_ok i c.toNat n hl (by omega) (by omega)).symm
      rw [e]
termination_by f => f
theorem tx_eq {l : List Sx} {i : Nat} {n : Sx} (h : lowTo l (i + 1)) (hn : l[i]? = some n) : tx l i = if n.sym = [] then 40 :: (joinF (n.ch.map fun c => tx l c.toNat) ++ [41]) else n.sym := by
  show txF l (i + 1) i = _
  simp only [txF, hn]
  have e : n.ch.map (fun c => txF l i c.toNat) = n.ch.map (fun c => tx l c.toNat) := List.map_congr_left fun c hc => by
    have := h i (by omega) c (by rw [chL_get hn]; exact hc)
    exact txF_ok i c.toNat (i + 1) h (by omega) (by omega)
  rw [e]
theorem joinF_len (g : Nat → List UInt8) (s : Nat → Nat) : ∀ l : List Int, (∀ c ∈ l, (g c.toNat).length + 2 ≤ 15 * s c.toNat) → (joinF (l.map fun c => g c.toNat)).length ≤ 15 * sumN s l
  | [], _ => by simp [joinF]
  | [a], h => by have := h a (by simp); simp [joinF, sumN]; omega
  | a :: b :: r, h => by
    have h1 := h a (by simp)
    have h2 := joinF_len g s (b :: r) fun c hc => h c (by simp [hc])
    simp only [List.map_cons, joinF, List.length_append, List.length_cons, sumN] at h2 ⊢
    omega
theorem tx_len {l : List Sx} : ∀ (i n : Nat), okTo l n → i < n → (tx l i).length + 2 ≤ 15 * sz l i := by
  intro i
  induction i using Nat.strongRecOn with
  | ind i ih =>
    intro n h hn
    have hlow : lowTo l (i + 1) := fun j hj => h.low j (by omega)
    have hp := sz_pos l i
    cases hx : l[i]? with
    | none => unfold tx; simp only [txF, hx, List.length_nil]; omega
    | some x =>
      rw [tx_eq hlow hx]
      have hv := h i hn x hx
      split
      · have hs := sz_eq hlow
        rw [chL_get hx] at hs
        have := joinF_len (tx l) (sz l) x.ch fun c hc => by
          have := hlow i (by omega) c (by rw [chL_get hx]; exact hc)
          exact ih c.toNat (by omega) n h (by omega)
        simp only [List.length_cons, List.length_append, List.length_nil]
        omega
      · rename_i hne
        have h1 := hv.shape
        unfold shapeC at h1
        rw [if_neg hne] at h1
        split at h1
        · cases h1
        · rename_i h2
          simp only [Bool.not_eq_false, symbolB, Bool.and_eq_true, decide_eq_true_eq] at h2
          omega
theorem sxFault_code (l : List Sx) : (sxFault l).code = 0 ↔ sxFault l = okF := by
  refine ⟨fun h => ?_, fun h => by rw [h]; rfl⟩
  unfold sxFault at h ⊢
  split at h
  · cases h
  · rename_i h1
    rw [if_neg h1]
    split at h
    · rename_i f hf
      exfalso
      have key : ∀ (n i : Nat) (f : Flt), scan (nodeBad l) i n = some f → f.code ≠ 0 := by
        intro n
        induction n with
        | zero => intro i f h; cases h
        | succ n ih =>
          intro i f h
          simp only [scan] at h
          split at h
          · rename_i g e
            cases h
            unfold nodeBad at e
            split at e
            · cases e
            · split at e
              · rename_i hh; cases e; exact hh
              · split at e
                · cases e; simp
                · split at e <;> cases e
                  simp
          · exact ih _ _ h
      exact key _ _ _ hf h
    · split at h
      · cases h
      · rename_i h2
        rw [if_neg h2]
structure SxOk (l : List Sx) : Prop where
  len : 1 ≤ l.length ∧ l.length ≤ 300
  node : okTo l l.length
  root : sz l (l.length - 1) = l.length
theorem scan_allX {α : Type} {bad : Nat → Option α} : ∀ (n i : Nat), scan bad i n = none → ∀ j, i ≤ j → j < i + n → bad j = none
  | 0, i, _, j, h1, h2 => by omega
  | n + 1, i, h, j, h1, h2 => by
    simp only [scan] at h
    split at h
    · cases h
    · rename_i e
      by_cases hj : j = i
      · rw [hj]; exact e
      · exact scan_allX n (i + 1) h j (by omega) (by omega)
theorem sxOk_of {l : List Sx} (h : sxFault l = okF) : SxOk l := by
  unfold sxFault at h
  split at h
  · cases h
  · rename_i h1
    split at h
    · rename_i f hf
      subst h
      have := (sxFault_code l).2 (by unfold sxFault; rw [if_neg h1, hf])
      have hc := (sxFault_code l)
      exfalso
      have key : ∀ (n i : Nat) (f : Flt), scan (nodeBad l) i n = some f → f.code ≠ 0 := by
        intro n
        induction n with
        | zero => intro i f h; cases h
        | succ n ih =>
          intro i f h
          simp only [scan] at h
          split at h
          · rename_i g e
            cases h
            unfold nodeBad at e
            split at e
            · cases e
            · split at e
              · rename_i hh; cases e; exact hh
              · split at e
                · cases e; simp
                · split at e <;> cases e
                  simp
          · exact ih _ _ h
      exact key _ _ _ hf rfl
    · rename_i hs
      split at h
      · cases h
      · rename_i h2
        refine ⟨by omega, fun j hj x hx => ?_, by simpa using h2⟩
        exact (nodeBad_none hx).1 (scan_allX _ _ hs j (Nat.zero_le _) (by omega))
theorem sxOk_to {l : List Sx} (h : SxOk l) : sxFault l = okF := by
  have hl := h.len
  unfold sxFault
  rw [if_neg (by omega), scan0_none fun j hj => ?_]
  · rw [if_neg (by simp [h.root])]
  · obtain ⟨x, hx⟩ := get_some hj
    exact (nodeBad_none hx).2 (h.node j hj x hx)
end Hm
end

section
/- Expressions: chains of children. No program in sight. -/
namespace Hm
set_option linter.unusedVariables false
set_option linter.unusedSimpArgs false
open Go
def chTo (l : List Sx) (n : Nat) : Prop := ∀ j, j < n → ∀ x, l[j]? = some x → ∃ e, chn l j x.ch.reverse = some e
theorem okTo.chs {l : List Sx} {n : Nat} (h : okTo l n) : chTo l n := fun j hj x hx => (h j hj x hx).chain
theorem chTo.low {l : List Sx} {n : Nat} (h : chTo l n) : lowTo l n := fun j hj => by
  cases hx : l[j]? with
  | none => intro c hc; unfold chL at hc; rw [hx] at hc; simp at hc
  | some x =>
    intro c hc
    obtain ⟨e, he⟩ := h j hj x hx
    rw [chL_get hx] at hc
    exact (chn_end he).2 c (List.mem_reverse.2 hc)
theorem chTo.mono {l : List Sx} {n m : Nat} (h : chTo l n) (hm : m ≤ n) : chTo l m := fun j hj => h j (by omega)
theorem sz_leC {l : List Sx} : ∀ (i n : Nat), chTo l n → i < n → sz l i ≤ i + 1 := by
  intro i
  induction i using Nat.strongRecOn with
  | ind i ih =>
    intro n h hn
    have hlow : lowTo l (i + 1) := fun j hj => h.low j (by omega)
    rw [sz_eq hlow]
    cases hx : l[i]? with
    | none => unfold chL; rw [hx]; simp [sumN]
    | some x =>
      obtain ⟨e, he⟩ := h i hn x hx
      have h1 := (chn_end he).1
      have h2 : 0 ≤ e := by
        have key : ∀ (r : List Int) (a e : Int), 0 ≤ a → a ≤ i → chn l a r = some e → 0 ≤ e := by
          intro r
          induction r with
          | nil => intro a e ha _ hh; cases hh; exact ha
          | cons c r ihr =>
            intro a e ha hai hh
            simp only [chn] at hh
            split at hh
            · cases hh
            · rename_i hc
              simp only [not_or, Decidable.not_not] at hc
              have := ih c.toNat (by omega) n h (by omega)
              have hp := sz_pos l c.toNat
              exact ihr _ _ (by omega) (by omega) hh
        exact key _ _ _ (by omega) (Int.le_refl _) he
      rw [sumN_rev] at h1
      rw [chL_get hx]
      omega
theorem chn_nn {l : List Sx} {i : Nat} (h : chTo l i) : ∀ (r : List Int) (a e : Int), 0 ≤ a → a ≤ i → chn l a r = some e → 0 ≤ e
  | [], a, e, ha, _, hh => by cases hh; exact ha
  | c :: r, a, e, ha, hai, hh => by
    simp only [chn] at hh
    split at hh
    · cases hh
    · rename_i hc
      simp only [not_or, Decidable.not_not] at hc
      have := sz_leC c.toNat i h (by omega)
      have hp := sz_pos l c.toNat
      exact chn_nn h r _ _ (by omega) (by omega) hh
theorem chn_snoc {l : List Sx} : ∀ (xs : List Int) (a c : Int), chn l a (xs ++ [c]) = match chn l a xs with
    | none => none
    | some e => if c < 0 ∨ c ≠ e - 1 then none else some (e - sz l c.toNat)
  | [], a, c => by simp only [List.nil_append, chn]
  | x :: xs, a, c => by
    simp only [List.cons_append, chn]
    split
    · rfl
    · exact chn_snoc xs _ c
theorem chn_none {l : List Sx} : ∀ (xs ys : List Int) (a : Int), chn l a xs = none → chn l a (xs ++ ys) = none
  | [], ys, a, h => by cases h
  | x :: xs, ys, a, h => by
    simp only [List.cons_append, chn] at h ⊢
    split
    · rfl
    · rename_i hc
      rw [if_neg hc] at h
      exact chn_none xs ys _ h
theorem sumN_take (f : Nat → Nat) : ∀ (l : List Int) (k : Nat), sumN f (l.take k) ≤ sumN f l
  | [], k => by simp [sumN]
  | a :: l, 0 => by simp [sumN]
  | a :: l, k + 1 => by have := sumN_take f l k; simp only [List.take_succ_cons, sumN]; omega
theorem maxN_take (f : Nat → Nat) : ∀ (l : List Int) (k : Nat), maxN f (l.take k) ≤ maxN f l
  | [], k => by simp [maxN]
  | a :: l, 0 => by simp [maxN]
  | a :: l, k + 1 => by have := maxN_take f l k; simp only [List.take_succ_cons, maxN]; omega
theorem max_le_sum {f g : Nat → Nat} : ∀ {l : List Int}, (∀ c ∈ l, f c.toNat ≤ g c.toNat) → maxN f l ≤ sumN g l
  | [], _ => Nat.le_refl _
  | a :: l, h => by
    have h1 := h a (by simp)
    have h2 := max_le_sum (l := l) fun c hc => h c (by simp [hc])
    simp only [maxN, sumN]
    omega
theorem dp_le {l : List Sx} : ∀ (i n : Nat), lowTo l n → i < n → dp l i ≤ sz l i := by
  intro i
  induction i using Nat.strongRecOn with
  | ind i ih =>
    intro n h hn
    have hlow : lowTo l (i + 1) := fun j hj => h j (by omega)
    rw [sz_eq hlow, dp_eq hlow]
    have := max_le_sum (l := chL l i) (f := dp l) (g := sz l) fun c hc => by
      have := h i hn c hc
      exact ih c.toNat (by omega) n h (by omega)
    omega
/-- Lists of memory that can be. -/
structure SxsOk (l : List Sx) : Prop where
  len : l.length ≤ 140737488355328
  e : ∀ x ∈ l, x.sym.length ≤ 140737488355328 ∧ x.ch.length ≤ 140737488355328
  r : ∀ x ∈ l, ∀ c ∈ x.ch, InR .i64 c
end Hm
end
