/- The program of this seat, and the stepping layer. -/
import Derived.Test.YtnkfkddgbiijgaaCoreC
import Derived.Test.YtnkfkddgbiijgaaProg
import Derived.ProofKit
import Derived.Shelf.Sort.Plain
section
/- The program of this seat, and the stepping layer. -/
namespace Hm
set_option linter.unusedVariables false
set_option linter.unusedSimpArgs false
open Go
theorem mixed : Go.Proofs.Try.prog.follows .mixedOrders = true := by kernel_rfl
end Hm
end

section
/- Faults, in plain terms. No program in sight. -/
namespace Hm
set_option linter.unusedVariables false
set_option linter.unusedSimpArgs false
open Go
structure Flt where
  code : Int
  index : Int
instance : DecidableEq Flt := fun a b => if h : a.code = b.code ∧ a.index = b.index then isTrue (by cases a; cases b; simp only at h; rw [h.1, h.2]) else isFalse (by rintro rfl; exact h ⟨rfl, rfl⟩)
def ftV (f : Flt) : V := .agg [.int .i64 f.code, .int .i64 f.index]
def okF : Flt := ⟨0, 0⟩
def i64V (n : Int) : V := .int .i64 n
theorem congr_ft {f : Flt} {c i : Int} (h : f = ⟨c, i⟩) : ftV f = .agg [.int .i64 c, .int .i64 i] := by rw [h]; rfl
theorem flt_eta (f : Flt) : (⟨f.code, f.index⟩ : Flt) = f := rfl
theorem ft_ok_iff (f : Flt) : (f.code == 0 && (f.index == 0 && true)) = decide (f = okF) := by
  cases f with
  | mk c i =>
    simp only [okF, Flt.mk.injEq, Bool.and_true]
    by_cases h1 : c = 0 <;> by_cases h2 : i = 0 <;> simp [h1, h2]
theorem ne_ok {f : Flt} (h : (!(f.code == 0 && (f.index == 0 && true))) = true) : f ≠ okF := by
  rw [ft_ok_iff] at h; simpa using h
theorem eq_ok {f : Flt} (h : (!(f.code == 0 && (f.index == 0 && true))) = false) : f = okF := by
  rw [ft_ok_iff] at h; simpa using h
theorem eq_ok' {f : Flt} (h : (f.code == 0 && (f.index == 0 && true)) = true) : f = okF := by
  rw [ft_ok_iff] at h; simpa using h
theorem ne_ok' {f : Flt} (h : (f.code == 0 && (f.index == 0 && true)) = false) : f ≠ okF := by
  rw [ft_ok_iff] at h; simpa using h
def fidx {α : Type} (p : α → Bool) (l : List α) : Int := match l.findIdx? p with
  | some i => i
  | none => -1
theorem fidx_hit {α : Type} {p : α → Bool} {l : List α} {k : Nat} {c : α} (h : ∀ j, j < k → ∀ c, l[j]? = some c → p c = false) (hc : l[k]? = some c) (hp : p c = true) : fidx p l = k := by
  have : l.findIdx? p = some k := by
    rw [List.findIdx?_eq_some_iff_getElem]
    have hk := get_lt hc
    refine ⟨hk, ?_, fun j hj => ?_⟩
    · rw [List.getElem?_eq_getElem hk] at hc; injection hc with hc; rw [hc]; exact hp
    · simp [h j hj _ (List.getElem?_eq_getElem (by omega))]
  simp [fidx, this]
theorem fidx_none {α : Type} {p : α → Bool} {l : List α} (h : ∀ j, j < l.length → ∀ c, l[j]? = some c → p c = false) : fidx p l = -1 := by
  have : l.findIdx? p = none := by
    rw [List.findIdx?_eq_none_iff]
    intro x hx
    obtain ⟨j, hj, e⟩ := List.getElem_of_mem hx
    exact h j hj x (by rw [← e]; exact List.getElem?_eq_getElem hj)
  simp [fidx, this]
theorem fidx_any {α : Type} (p : α → Bool) (l : List α) : decide (fidx p l ≥ 0) = l.any p := by
  unfold fidx
  cases h : l.findIdx? p with
  | none =>
    rw [List.findIdx?_eq_none_iff] at h
    have : l.any p = false := by
      rw [Bool.eq_false_iff]
      intro e
      obtain ⟨x, h1, h2⟩ := List.any_eq_true.1 e
      rw [h x h1] at h2
      cases h2
    rw [this]; rfl
  | some k =>
    rw [List.findIdx?_eq_some_iff_getElem] at h
    obtain ⟨h1, h2, _⟩ := h
    have : l.any p = true := List.any_eq_true.2 ⟨_, List.getElem_mem h1, h2⟩
    rw [this]
    simp
end Hm
end

section
/- Contracts: small functions of the references. -/
namespace Hm
open Go
set_option maxRecDepth 100000
set_option maxHeartbeats 1000000
set_option linter.unusedSimpArgs false
set_option linter.unusedVariables false
def c_R1_In : Cmd :=
  (.seq
   (.ops [
   .op (some 6) none (.mov (.c (.bool false)))])
   (.cut
   (.seq
   (.ops [
   .op (some 7) none (.mov (.t 0)),
   .op (some 8) none (.mov (.t 1)),
   .op (some 9) none (.bin .geq false [] (.t 7) (.t 8)),
   .op (some 10) none (.mov (.t 9)),
   .op (some 11) (some (10, true)) (.mov (.t 0)),
   .op (some 12) (some (10, true)) (.mov (.t 2)),
   .op (some 13) (some (10, true)) (.bin .leq false [] (.t 11) (.t 12)),
   .op (some 14) none (.pick (.t 10) (.t 13) (.c (.bool false))),
   .op (some 6) none (.mov (.t 14))])
   .ret)))
def r_R1_In : List RVar := [.tmp 6]
def n_R1_In : Nat := 15
theorem k_R1_In : chkFn Go.Proofs.Try.prog 19 n_R1_In r_R1_In c_R1_In = true := by kernel_rfl
theorem f_R1_In (x lo hi : Int) : Fc Go.Proofs.Try.prog 19 [.int .i64 x, .int .i64 lo, .int .i64 hi] (.bool (decide (lo ≤ x) && decide (x ≤ hi))) := by
  refine Fn.step mixed k_R1_In ?_
  repeat' (first | refine i_len rfl ?_ | refine i_s rfl ?_ | refine i_lenm rfl rfl rfl ?_ | refine c_seq ?_ | refine c_cut0 ?_ | refine c_ops ?_ | refine i_nil ?_ | refine e_seq ?_ | refine e_block ?_ | refine c_block ?_ | refine c_skip ?_ | refine c_ret ?_ | refine c_exit ?_ | refine e_exit rfl ?_ | refine i_s0 rfl ?_ | refine c_leaf ?_ | refine i_gt rfl ?_ | refine i_gf rfl ?_ | refine i_gd rfl ?_ | refine c_t rfl ?_ | refine c_f rfl ?_ | refine i_conv rfl (by simp only [InR, List.length_map]; omega) ?_ | refine i_add rfl rfl (by simp only [InR, List.length_map]; omega) ?_ | refine i_sub rfl rfl (by simp only [InR, List.length_map]; omega) ?_ | refine i_ixm rfl rfl (by assumption) ?_ | refine i_iai rfl rfl (by omega) (by assumption) rfl ?_ | refine i_iam rfl rfl (by assumption) rfl ?_ | refine i_tk rfl rfl (by omega) ?_ | refine i_stb rfl ?_ | refine i_alloc rfl ?_ | refine i_box rfl rfl ?_ | refine i_nv rfl ?_ | refine c_node ?_ ?_ | refine i_g rfl (fun h => ?_) (fun h => ?_) | refine c_cond rfl (fun h => ?_) (fun h => ?_))
  all_goals refine e_ret ⟨rfl, _, rfl, congrArg V.bool ?_⟩
  · have := of_decide_eq_true h; simp; omega
  · have := of_decide_eq_false h; simp; omega
def c_R1_At : Cmd :=
  (.seq
   (.ops [
   .op (some 4) none (.alloc 1024258 (.agg [.int .i64 (0), .int .i64 (0)]))])
   (.cut
   (.seq
   (.ops [
   .op (some 5) none (.mov (.t 0)),
   .op (some 6) none (.mov (.t 1)),
   .op (some 7) none (.build [.int .i64 (0), .int .i64 (0)] [(0, 1, .t 5), (1, 1, .t 6)]),
   .op none none (.store 2 (.t 4) (.t 7))])
   .ret)))
def r_R1_At : List RVar := [.cell true 2 4]
def n_R1_At : Nat := 8
theorem k_R1_At : chkFn Go.Proofs.Try.prog 16 n_R1_At r_R1_At c_R1_At = true := by kernel_rfl
theorem f_R1_At (c i : Int) : Fc Go.Proofs.Try.prog 16 [.int .i64 c, .int .i64 i] (.agg [.int .i64 c, .int .i64 i]) := by
  refine Fn.step mixed k_R1_At ?_
  repeat' (first | refine i_len rfl ?_ | refine i_s rfl ?_ | refine i_lenm rfl rfl rfl ?_ | refine c_seq ?_ | refine c_cut0 ?_ | refine c_ops ?_ | refine i_nil ?_ | refine e_seq ?_ | refine e_block ?_ | refine c_block ?_ | refine c_skip ?_ | refine c_ret ?_ | refine c_exit ?_ | refine e_exit rfl ?_ | refine i_s0 rfl ?_ | refine c_leaf ?_ | refine i_gt rfl ?_ | refine i_gf rfl ?_ | refine i_gd rfl ?_ | refine c_t rfl ?_ | refine c_f rfl ?_ | refine i_conv rfl (by simp only [InR, List.length_map]; omega) ?_ | refine i_add rfl rfl (by simp only [InR, List.length_map]; omega) ?_ | refine i_sub rfl rfl (by simp only [InR, List.length_map]; omega) ?_ | refine i_ixm rfl rfl (by assumption) ?_ | refine i_iai rfl rfl (by omega) (by assumption) rfl ?_ | refine i_iam rfl rfl (by assumption) rfl ?_ | refine i_tk rfl rfl (by omega) ?_ | refine i_stb rfl ?_ | refine i_alloc rfl ?_ | refine i_box rfl rfl ?_ | refine i_nv rfl ?_ | refine c_node ?_ ?_ | refine i_g rfl (fun h => ?_) (fun h => ?_) | refine c_cond rfl (fun h => ?_) (fun h => ?_))
  exact e_ret ⟨rfl, _, rfl, rfl⟩
def c_R1_Has : Cmd :=
  (.seq
   (.ops [
   .op (some 4) none (.mov (.c (.bool false)))])
   (.cut
   (.seq
   (.seq
   (.ops [
   .op (some 5) none (.mov (.c (.int .i64 (0))))])
   (.cut
   (.block 0
   (.loop
   (.seq
   (.seq
   (.ops [
   .op (some 6) none (.mov (.t 5)),
   .op (some 7) none (.mov (.t 0)),
   .op (some 8) none (.len false (.t 7)),
   .op (some 9) none (.bin .lss false [] (.t 6) (.t 8))])
   (.cut
   (.cond (.t 9)
   .skip
   (.exit 0))))
   (.cut
   (.seq
   (.block 1
   (.seq
   (.ops [
   .op (some 12) none (.mov (.t 0)),
   .op (some 13) none (.mov (.t 5)),
   .op (some 14) none (.iaddr 1 (.t 12) (.t 13)),
   .op (some 15) none (.load false 1 (.t 14)),
   .op (some 16) none (.mov (.t 1)),
   .op (some 17) none (.bin .eql false [.i] (.t 15) (.t 16))])
   (.cut
   (.cond (.t 17)
   (.seq
   (.ops [
   .op (some 4) none (.mov (.c (.bool true)))])
   .ret)
   .skip))))
   (.cut
   (.ops [
   .op (some 10) none (.mov (.t 5)),
   .op (some 11) none (.bin .add false [] (.t 10) (.c (.int .i64 (1)))),
   .op (some 5) none (.mov (.t 11))])))))))))
   (.cut
   (.seq
   (.ops [
   .op (some 4) none (.mov (.c (.bool false)))])
   .ret)))))
def r_R1_Has : List RVar := [.tmp 4]
def n_R1_Has : Nat := 18
theorem k_R1_Has : chkFn Go.Proofs.Try.prog 52 n_R1_Has r_R1_Has c_R1_Has = true := by kernel_rfl
theorem f_R1_Has (xs : List Int) (n : Int) (hl : xs.length ≤ 140737488355328) : Fc Go.Proofs.Try.prog 52 [.sl .p (xs.map i64V), .int .i64 n] (.bool (decide (n ∈ xs))) := by
  refine Fn.step mixed k_R1_Has ?_
  repeat (first | refine i_len rfl ?_ | refine i_s rfl ?_ | refine i_lenm rfl rfl rfl ?_ | refine c_seq ?_ | refine c_cut0 ?_ | refine c_ops ?_ | refine i_nil ?_ | refine e_seq ?_ | refine e_block ?_ | refine c_block ?_ | refine c_skip ?_ | refine c_ret ?_ | refine c_exit ?_ | refine e_exit rfl ?_ | refine i_s0 rfl ?_ | refine c_leaf ?_ | refine i_gt rfl ?_ | refine i_gf rfl ?_ | refine i_gd rfl ?_ | refine c_t rfl ?_ | refine c_f rfl ?_ | refine i_conv rfl (by simp only [InR, List.length_map]; omega) ?_ | refine i_add rfl rfl (by simp only [InR, List.length_map]; omega) ?_ | refine i_sub rfl rfl (by simp only [InR, List.length_map]; omega) ?_ | refine i_ixm rfl rfl (by assumption) ?_ | refine i_iai rfl rfl (by omega) (by assumption) rfl ?_ | refine i_iam rfl rfl (by assumption) rfl ?_ | refine i_tk rfl rfl (by omega) ?_ | refine i_stb rfl ?_ | refine i_alloc rfl ?_ | refine i_box rfl rfl ?_ | refine i_nv rfl ?_)
  refine c_for xs.length (fun k => [(0, .sl .p (xs.map i64V)), (1, .int .i64 n), (5, .int .i64 k)]) (fun _ => []) (fun k => n ∉ xs.take k) (by simp) ⟨by repeat (first | exact trivial | refine ⟨rfl, ?_⟩), by repeat (first | exact trivial | refine ⟨rfl, ?_⟩), rfl⟩ fun k hk hi => ?_
  repeat (first | refine i_len rfl ?_ | refine i_s rfl ?_ | refine i_lenm rfl rfl rfl ?_ | refine c_seq ?_ | refine c_cut0 ?_ | refine c_ops ?_ | refine i_nil ?_ | refine e_seq ?_ | refine e_block ?_ | refine c_block ?_ | refine c_skip ?_ | refine c_ret ?_ | refine c_exit ?_ | refine e_exit rfl ?_ | refine i_s0 rfl ?_ | refine c_leaf ?_ | refine i_gt rfl ?_ | refine i_gf rfl ?_ | refine i_gd rfl ?_ | refine c_t rfl ?_ | refine c_f rfl ?_ | refine i_conv rfl (by simp only [InR, List.length_map]; omega) ?_ | refine i_add rfl rfl (by simp only [InR, List.length_map]; omega) ?_ | refine i_sub rfl rfl (by simp only [InR, List.length_map]; omega) ?_ | refine i_ixm rfl rfl (by assumption) ?_ | refine i_iai rfl rfl (by omega) (by assumption) rfl ?_ | refine i_iam rfl rfl (by assumption) rfl ?_ | refine i_tk rfl rfl (by omega) ?_ | refine i_stb rfl ?_ | refine i_alloc rfl ?_ | refine i_box rfl rfl ?_ | refine i_nv rfl ?_)
  refine c_cond rfl (fun h => ?_) (fun h => ?_)
  · have hlt : k < xs.length := by simpa using h
    obtain ⟨c, hc⟩ := get_some hlt
    repeat' (first | refine i_len rfl ?_ | refine i_s rfl ?_ | refine i_lenm rfl rfl rfl ?_ | refine c_seq ?_ | refine c_cut0 ?_ | refine c_ops ?_ | refine i_nil ?_ | refine e_seq ?_ | refine e_block ?_ | refine c_block ?_ | refine c_skip ?_ | refine c_ret ?_ | refine c_exit ?_ | refine e_exit rfl ?_ | refine i_s0 rfl ?_ | refine c_leaf ?_ | refine i_gt rfl ?_ | refine i_gf rfl ?_ | refine i_gd rfl ?_ | refine c_t rfl ?_ | refine c_f rfl ?_ | refine i_conv rfl (by simp only [InR, List.length_map]; omega) ?_ | refine i_add rfl rfl (by simp only [InR, List.length_map]; omega) ?_ | refine i_sub rfl rfl (by simp only [InR, List.length_map]; omega) ?_ | refine i_ixm rfl rfl (by assumption) ?_ | refine i_iai rfl rfl (by omega) (by assumption) rfl ?_ | refine i_iam rfl rfl (by assumption) rfl ?_ | refine i_tk rfl rfl (by omega) ?_ | refine i_stb rfl ?_ | refine i_alloc rfl ?_ | refine i_box rfl rfl ?_ | refine i_nv rfl ?_ | refine c_node ?_ ?_ | refine i_g rfl (fun h => ?_) (fun h => ?_) | refine c_cond rfl (fun h => ?_) (fun h => ?_))
    · refine e_ret ⟨rfl, _, rfl, congrArg V.bool ?_⟩
      have e : c = n := by simpa using h
      exact decide_eq_true (e ▸ mem_get hc)
    · refine e_for hlt ?_ ⟨by repeat (first | exact trivial | refine ⟨rfl, ?_⟩), by repeat (first | exact trivial | refine ⟨rfl, ?_⟩), rfl⟩
      have e : c ≠ n := by simpa using h
      rw [take_succ_get hc, List.mem_append]
      simp [hi, Ne.symm e]
  · have hge : ¬ k < xs.length := by simpa using h
    rw [List.take_of_length_le (by omega)] at hi
    repeat' (first | refine i_len rfl ?_ | refine i_s rfl ?_ | refine i_lenm rfl rfl rfl ?_ | refine c_seq ?_ | refine c_cut0 ?_ | refine c_ops ?_ | refine i_nil ?_ | refine e_seq ?_ | refine e_block ?_ | refine c_block ?_ | refine c_skip ?_ | refine c_ret ?_ | refine c_exit ?_ | refine e_exit rfl ?_ | refine i_s0 rfl ?_ | refine c_leaf ?_ | refine i_gt rfl ?_ | refine i_gf rfl ?_ | refine i_gd rfl ?_ | refine c_t rfl ?_ | refine c_f rfl ?_ | refine i_conv rfl (by simp only [InR, List.length_map]; omega) ?_ | refine i_add rfl rfl (by simp only [InR, List.length_map]; omega) ?_ | refine i_sub rfl rfl (by simp only [InR, List.length_map]; omega) ?_ | refine i_ixm rfl rfl (by assumption) ?_ | refine i_iai rfl rfl (by omega) (by assumption) rfl ?_ | refine i_iam rfl rfl (by assumption) rfl ?_ | refine i_tk rfl rfl (by omega) ?_ | refine i_stb rfl ?_ | refine i_alloc rfl ?_ | refine i_box rfl rfl ?_ | refine i_nv rfl ?_ | refine c_node ?_ ?_ | refine i_g rfl (fun h => ?_) (fun h => ?_) | refine c_cond rfl (fun h => ?_) (fun h => ?_))
    exact e_ret ⟨rfl, _, rfl, congrArg V.bool (decide_eq_false hi)⟩
def c_R1_Ints : Cmd :=
  (.seq
   (.ops [
   .op (some 4) none (.mov (.c (.bool false)))])
   (.cut
   (.seq
   (.seq
   (.ops [
   .op (some 6) none (.mov (.t 0)),
   .op (some 7) none (.len false (.t 6)),
   .op (some 8) none (.mov (.t 1)),
   .op (some 9) none (.len false (.t 8)),
   .op (some 10) none (.bin .neq false [.i] (.t 7) (.t 9))])
   (.cut
   (.cond (.t 10)
   (.seq
   (.ops [
   .op (some 4) none (.mov (.c (.bool false)))])
   .ret)
   .skip)))
   (.cut
   (.seq
   (.seq
   (.ops [
   .op (some 5) none (.mov (.c (.int .i64 (0))))])
   (.cut
   (.block 0
   (.loop
   (.seq
   (.seq
   (.ops [
   .op (some 11) none (.mov (.t 5)),
   .op (some 12) none (.mov (.t 0)),
   .op (some 13) none (.len false (.t 12)),
   .op (some 14) none (.bin .lss false [] (.t 11) (.t 13))])
   (.cut
   (.cond (.t 14)
   .skip
   (.exit 0))))
   (.cut
   (.seq
   (.block 1
   (.seq
   (.ops [
   .op (some 17) none (.mov (.t 0)),
   .op (some 18) none (.mov (.t 5)),
   .op (some 19) none (.iaddr 1 (.t 17) (.t 18)),
   .op (some 20) none (.load false 1 (.t 19)),
   .op (some 21) none (.mov (.t 1)),
   .op (some 22) none (.mov (.t 5)),
   .op (some 23) none (.iaddr 1 (.t 21) (.t 22)),
   .op (some 24) none (.load false 1 (.t 23)),
   .op (some 25) none (.bin .neq false [.i] (.t 20) (.t 24))])
   (.cut
   (.cond (.t 25)
   (.seq
   (.ops [
   .op (some 4) none (.mov (.c (.bool false)))])
   .ret)
   .skip))))
   (.cut
   (.ops [
   .op (some 15) none (.mov (.t 5)),
   .op (some 16) none (.bin .add false [] (.t 15) (.c (.int .i64 (1)))),
   .op (some 5) none (.mov (.t 16))])))))))))
   (.cut
   (.seq
   (.ops [
   .op (some 4) none (.mov (.c (.bool true)))])
   .ret)))))))
def r_R1_Ints : List RVar := [.tmp 4]
def n_R1_Ints : Nat := 26
theorem k_R1_Ints : chkFn Go.Proofs.Try.prog 14 n_R1_Ints r_R1_Ints c_R1_Ints = true := by kernel_rfl
theorem f_R1_Ints (xs ys : List Int) (hl : xs.length ≤ 140737488355328) : Fc Go.Proofs.Try.prog 14 [.sl .p (xs.map i64V), .sl .p (ys.map i64V)] (.bool (decide (xs = ys))) := by
  refine Fn.step mixed k_R1_Ints ?_
  repeat' (first | refine i_len rfl ?_ | refine i_s rfl ?_ | refine i_lenm rfl rfl rfl ?_ | refine c_seq ?_ | refine c_cut0 ?_ | refine c_ops ?_ | refine i_nil ?_ | refine e_seq ?_ | refine e_block ?_ | refine c_block ?_ | refine c_skip ?_ | refine c_ret ?_ | refine c_exit ?_ | refine e_exit rfl ?_ | refine i_s0 rfl ?_ | refine c_leaf ?_ | refine i_gt rfl ?_ | refine i_gf rfl ?_ | refine i_gd rfl ?_ | refine c_t rfl ?_ | refine c_f rfl ?_ | refine i_conv rfl (by simp only [InR, List.length_map]; omega) ?_ | refine i_add rfl rfl (by simp only [InR, List.length_map]; omega) ?_ | refine i_sub rfl rfl (by simp only [InR, List.length_map]; omega) ?_ | refine i_ixm rfl rfl (by assumption) ?_ | refine i_iai rfl rfl (by omega) (by assumption) rfl ?_ | refine i_iam rfl rfl (by assumption) rfl ?_ | refine i_tk rfl rfl (by omega) ?_ | refine i_stb rfl ?_ | refine i_alloc rfl ?_ | refine i_box rfl rfl ?_ | refine i_nv rfl ?_ | refine c_node ?_ ?_ | refine i_g rfl (fun h => ?_) (fun h => ?_) | refine c_cond rfl (fun h => ?_) (fun h => ?_))
  · have e : xs.length ≠ ys.length := by simp at h; omega
    refine e_ret ⟨rfl, _, rfl, congrArg V.bool (decide_eq_false fun e' => e (by rw [e']))⟩
  have e : xs.length = ys.length := by simp at h; omega
  refine c_for xs.length (fun k => [(0, .sl .p (xs.map i64V)), (1, .sl .p (ys.map i64V)), (5, .int .i64 k)]) (fun _ => []) (fun k => xs.take k = ys.take k) (by simp) ⟨by repeat (first | exact trivial | refine ⟨rfl, ?_⟩), by repeat (first | exact trivial | refine ⟨rfl, ?_⟩), rfl⟩ fun k hk hi => ?_
  repeat (first | refine i_len rfl ?_ | refine i_s rfl ?_ | refine i_lenm rfl rfl rfl ?_ | refine c_seq ?_ | refine c_cut0 ?_ | refine c_ops ?_ | refine i_nil ?_ | refine e_seq ?_ | refine e_block ?_ | refine c_block ?_ | refine c_skip ?_ | refine c_ret ?_ | refine c_exit ?_ | refine e_exit rfl ?_ | refine i_s0 rfl ?_ | refine c_leaf ?_ | refine i_gt rfl ?_ | refine i_gf rfl ?_ | refine i_gd rfl ?_ | refine c_t rfl ?_ | refine c_f rfl ?_ | refine i_conv rfl (by simp only [InR, List.length_map]; omega) ?_ | refine i_add rfl rfl (by simp only [InR, List.length_map]; omega) ?_ | refine i_sub rfl rfl (by simp only [InR, List.length_map]; omega) ?_ | refine i_ixm rfl rfl (by assumption) ?_ | refine i_iai rfl rfl (by omega) (by assumption) rfl ?_ | refine i_iam rfl rfl (by assumption) rfl ?_ | refine i_tk rfl rfl (by omega) ?_ | refine i_stb rfl ?_ | refine i_alloc rfl ?_ | refine i_box rfl rfl ?_ | refine i_nv rfl ?_)
  refine c_cond rfl (fun h => ?_) (fun h => ?_)
  · have hlt : k < xs.length := by simpa using h
    obtain ⟨c, hc⟩ := get_some hlt
    obtain ⟨c', hc'⟩ := get_some (e ▸ hlt)
    repeat' (first | refine i_len rfl ?_ | refine i_s rfl ?_ | refine i_lenm rfl rfl rfl ?_ | refine c_seq ?_ | refine c_cut0 ?_ | refine c_ops ?_ | refine i_nil ?_ | refine e_seq ?_ | refine e_block ?_ | refine c_block ?_ | refine c_skip ?_ | refine c_ret ?_ | refine c_exit ?_ | refine e_exit rfl ?_ | refine i_s0 rfl ?_ | refine c_leaf ?_ | refine i_gt rfl ?_ | refine i_gf rfl ?_ | refine i_gd rfl ?_ | refine c_t rfl ?_ | refine c_f rfl ?_ | refine i_conv rfl (by simp only [InR, List.length_map]; omega) ?_ | refine i_add rfl rfl (by simp only [InR, List.length_map]; omega) ?_ | refine i_sub rfl rfl (by simp only [InR, List.length_map]; omega) ?_ | refine i_ixm rfl rfl (by assumption) ?_ | refine i_iai rfl rfl (by omega) (by assumption) rfl ?_ | refine i_iam rfl rfl (by assumption) rfl ?_ | refine i_tk rfl rfl (by omega) ?_ | refine i_stb rfl ?_ | refine i_alloc rfl ?_ | refine i_box rfl rfl ?_ | refine i_nv rfl ?_ | refine c_node ?_ ?_ | refine i_g rfl (fun h => ?_) (fun h => ?_) | refine c_cond rfl (fun h => ?_) (fun h => ?_))
    · refine e_ret ⟨rfl, _, rfl, congrArg V.bool (decide_eq_false fun e' => ?_)⟩
      subst e'
      rw [hc] at hc'
      cases hc'
      simp at h
    · refine e_for hlt ?_ ⟨by repeat (first | exact trivial | refine ⟨rfl, ?_⟩), by repeat (first | exact trivial | refine ⟨rfl, ?_⟩), rfl⟩
      have e : c = c' := by simpa using h
      rw [take_succ_get hc, take_succ_get hc', hi, e]
  · have hge : ¬ k < xs.length := by simpa using h
    rw [List.take_of_length_le (by omega), List.take_of_length_le (by omega)] at hi
    repeat' (first | refine i_len rfl ?_ | refine i_s rfl ?_ | refine i_lenm rfl rfl rfl ?_ | refine c_seq ?_ | refine c_cut0 ?_ | refine c_ops ?_ | refine i_nil ?_ | refine e_seq ?_ | refine e_block ?_ | refine c_block ?_ | refine c_skip ?_ | refine c_ret ?_ | refine c_exit ?_ | refine e_exit rfl ?_ | refine i_s0 rfl ?_ | refine c_leaf ?_ | refine i_gt rfl ?_ | refine i_gf rfl ?_ | refine i_gd rfl ?_ | refine c_t rfl ?_ | refine c_f rfl ?_ | refine i_conv rfl (by simp only [InR, List.length_map]; omega) ?_ | refine i_add rfl rfl (by simp only [InR, List.length_map]; omega) ?_ | refine i_sub rfl rfl (by simp only [InR, List.length_map]; omega) ?_ | refine i_ixm rfl rfl (by assumption) ?_ | refine i_iai rfl rfl (by omega) (by assumption) rfl ?_ | refine i_iam rfl rfl (by assumption) rfl ?_ | refine i_tk rfl rfl (by omega) ?_ | refine i_stb rfl ?_ | refine i_alloc rfl ?_ | refine i_box rfl rfl ?_ | refine i_nv rfl ?_ | refine c_node ?_ ?_ | refine i_g rfl (fun h => ?_) (fun h => ?_) | refine c_cond rfl (fun h => ?_) (fun h => ?_))
    exact e_ret ⟨rfl, _, rfl, congrArg V.bool (decide_eq_true hi)⟩
end Hm
end

section
/- Contracts: subsets. -/
namespace Hm
open Go
set_option maxRecDepth 100000
set_option maxHeartbeats 1000000
set_option linter.unusedSimpArgs false
set_option linter.unusedVariables false
def c_R1_Subset : Cmd :=
  (.seq
   (.ops [
   .op (some 4) none (.mov (.c (.bool false)))])
   (.cut
   (.seq
   (.seq
   (.ops [
   .op (some 5) none (.mov (.c (.int .i64 (0))))])
   (.cut
   (.block 0
   (.loop
   (.seq
   (.seq
   (.ops [
   .op (some 6) none (.mov (.t 5)),
   .op (some 7) none (.mov (.t 0)),
   .op (some 8) none (.len false (.t 7)),
   .op (some 9) none (.bin .lss false [] (.t 6) (.t 8))])
   (.cut
   (.cond (.t 9)
   .skip
   (.exit 0))))
   (.cut
   (.seq
   (.block 1
   (.seq
   (.ops [
   .op (some 12) none (.mov (.t 1)),
   .op (some 13) none (.mov (.t 0)),
   .op (some 14) none (.mov (.t 5)),
   .op (some 15) none (.iaddr 1 (.t 13) (.t 14)),
   .op (some 16) none (.load false 1 (.t 15)),
   .op (some 17) none (.call .f (.c (.fn 52 [])) [.t 12, .t 16]),
   .op (some 18) none (.not (.t 17))])
   (.cut
   (.cond (.t 18)
   (.seq
   (.ops [
   .op (some 4) none (.mov (.c (.bool false)))])
   .ret)
   .skip))))
   (.cut
   (.ops [
   .op (some 10) none (.mov (.t 5)),
   .op (some 11) none (.bin .add false [] (.t 10) (.c (.int .i64 (1)))),
   .op (some 5) none (.mov (.t 11))])))))))))
   (.cut
   (.seq
   (.ops [
   .op (some 4) none (.mov (.c (.bool true)))])
   .ret)))))
def r_R1_Subset : List RVar := [.tmp 4]
def n_R1_Subset : Nat := 19
theorem k_R1_Subset : chkFn Go.Proofs.Try.prog 55 n_R1_Subset r_R1_Subset c_R1_Subset = true := by kernel_rfl
theorem f_R1_Subset (xs ys : List Int) (hl : xs.length ≤ 140737488355328) (hl2 : ys.length ≤ 140737488355328) : Fc Go.Proofs.Try.prog 55 [.sl .p (xs.map i64V), .sl .p (ys.map i64V)] (.bool (xs.all fun x => decide (x ∈ ys))) := by
  refine Fn.step mixed k_R1_Subset ?_
  repeat' (first | refine i_len rfl ?_ | refine i_s rfl ?_ | refine i_lenm rfl rfl rfl ?_ | refine c_seq ?_ | refine c_cut0 ?_ | refine c_ops ?_ | refine i_nil ?_ | refine e_seq ?_ | refine e_block ?_ | refine c_block ?_ | refine c_skip ?_ | refine c_ret ?_ | refine c_exit ?_ | refine e_exit rfl ?_ | refine i_s0 rfl ?_ | refine c_leaf ?_ | refine i_gt rfl ?_ | refine i_gf rfl ?_ | refine i_gd rfl ?_ | refine c_t rfl ?_ | refine c_f rfl ?_ | refine i_conv rfl (by simp only [InR, List.length_map]; omega) ?_ | refine i_add rfl rfl (by simp only [InR, List.length_map]; omega) ?_ | refine i_sub rfl rfl (by simp only [InR, List.length_map]; omega) ?_ | refine i_ixm rfl rfl (by assumption) ?_ | refine i_iai rfl rfl (by omega) (by assumption) rfl ?_ | refine i_iam rfl rfl (by assumption) rfl ?_ | refine i_tk rfl rfl (by omega) ?_ | refine i_stb rfl ?_ | refine i_alloc rfl ?_ | refine i_box rfl rfl ?_ | refine i_nv rfl ?_ | refine c_node ?_ ?_ | refine i_g rfl (fun h => ?_) (fun h => ?_) | refine c_cond rfl (fun h => ?_) (fun h => ?_))
  refine c_for xs.length (fun k => [(0, .sl .p (xs.map i64V)), (1, .sl .p (ys.map i64V)), (5, .int .i64 k)]) (fun _ => []) (fun k => ∀ j, j < k → ∀ c, xs[j]? = some c → c ∈ ys) all_zero ⟨by repeat (first | exact trivial | refine ⟨rfl, ?_⟩), by repeat (first | exact trivial | refine ⟨rfl, ?_⟩), rfl⟩ fun k hk hi => ?_
  repeat (first | refine i_len rfl ?_ | refine i_s rfl ?_ | refine i_lenm rfl rfl rfl ?_ | refine c_seq ?_ | refine c_cut0 ?_ | refine c_ops ?_ | refine i_nil ?_ | refine e_seq ?_ | refine e_block ?_ | refine c_block ?_ | refine c_skip ?_ | refine c_ret ?_ | refine c_exit ?_ | refine e_exit rfl ?_ | refine i_s0 rfl ?_ | refine c_leaf ?_ | refine i_gt rfl ?_ | refine i_gf rfl ?_ | refine i_gd rfl ?_ | refine c_t rfl ?_ | refine c_f rfl ?_ | refine i_conv rfl (by simp only [InR, List.length_map]; omega) ?_ | refine i_add rfl rfl (by simp only [InR, List.length_map]; omega) ?_ | refine i_sub rfl rfl (by simp only [InR, List.length_map]; omega) ?_ | refine i_ixm rfl rfl (by assumption) ?_ | refine i_iai rfl rfl (by omega) (by assumption) rfl ?_ | refine i_iam rfl rfl (by assumption) rfl ?_ | refine i_tk rfl rfl (by omega) ?_ | refine i_stb rfl ?_ | refine i_alloc rfl ?_ | refine i_box rfl rfl ?_ | refine i_nv rfl ?_)
  refine c_cond rfl (fun h => ?_) (fun h => ?_)
  · have hlt : k < xs.length := by simpa using h
    obtain ⟨c, hc⟩ := get_some hlt
    clear h
    repeat' (first | refine i_len rfl ?_ | refine i_s rfl ?_ | refine i_lenm rfl rfl rfl ?_ | refine c_seq ?_ | refine c_cut0 ?_ | refine c_ops ?_ | refine i_nil ?_ | refine e_seq ?_ | refine e_block ?_ | refine c_block ?_ | refine c_skip ?_ | refine c_ret ?_ | refine c_exit ?_ | refine e_exit rfl ?_ | refine i_s0 rfl ?_ | refine c_leaf ?_ | refine i_gt rfl ?_ | refine i_gf rfl ?_ | refine i_gd rfl ?_ | refine c_t rfl ?_ | refine c_f rfl ?_ | refine i_conv rfl (by simp only [InR, List.length_map]; omega) ?_ | refine i_add rfl rfl (by simp only [InR, List.length_map]; omega) ?_ | refine i_sub rfl rfl (by simp only [InR, List.length_map]; omega) ?_ | refine i_ixm rfl rfl (by assumption) ?_ | refine i_iai rfl rfl (by omega) (by assumption) rfl ?_ | refine i_iam rfl rfl (by assumption) rfl ?_ | refine i_tk rfl rfl (by omega) ?_ | refine i_stb rfl ?_ | refine i_alloc rfl ?_ | refine i_box rfl rfl ?_ | refine i_nv rfl ?_ | refine c_node ?_ ?_ | refine i_g rfl (fun h => ?_) (fun h => ?_) | refine c_cond rfl (fun h => ?_) (fun h => ?_) | refine i_f rfl rfl (f_R1_Has ys c hl2) rfl ?_)
    · refine e_ret ⟨rfl, _, rfl, congrArg V.bool ?_⟩
      rw [List.all_eq_false]
      exact ⟨c, mem_get hc, by simpa using h⟩
    · exact e_for hlt (all_succ hi fun c' hc' => by rw [hc] at hc'; cases hc'; simpa using h) ⟨by repeat (first | exact trivial | refine ⟨rfl, ?_⟩), by repeat (first | exact trivial | refine ⟨rfl, ?_⟩), rfl⟩
  · have hge : ¬ k < xs.length := by simpa using h
    repeat' (first | refine i_len rfl ?_ | refine i_s rfl ?_ | refine i_lenm rfl rfl rfl ?_ | refine c_seq ?_ | refine c_cut0 ?_ | refine c_ops ?_ | refine i_nil ?_ | refine e_seq ?_ | refine e_block ?_ | refine c_block ?_ | refine c_skip ?_ | refine c_ret ?_ | refine c_exit ?_ | refine e_exit rfl ?_ | refine i_s0 rfl ?_ | refine c_leaf ?_ | refine i_gt rfl ?_ | refine i_gf rfl ?_ | refine i_gd rfl ?_ | refine c_t rfl ?_ | refine c_f rfl ?_ | refine i_conv rfl (by simp only [InR, List.length_map]; omega) ?_ | refine i_add rfl rfl (by simp only [InR, List.length_map]; omega) ?_ | refine i_sub rfl rfl (by simp only [InR, List.length_map]; omega) ?_ | refine i_ixm rfl rfl (by assumption) ?_ | refine i_iai rfl rfl (by omega) (by assumption) rfl ?_ | refine i_iam rfl rfl (by assumption) rfl ?_ | refine i_tk rfl rfl (by omega) ?_ | refine i_stb rfl ?_ | refine i_alloc rfl ?_ | refine i_box rfl rfl ?_ | refine i_nv rfl ?_ | refine c_node ?_ ?_ | refine i_g rfl (fun h => ?_) (fun h => ?_) | refine c_cond rfl (fun h => ?_) (fun h => ?_))
    refine e_ret ⟨rfl, _, rfl, congrArg V.bool ?_⟩
    rw [List.all_eq_true]
    intro x hx
    obtain ⟨i, hi', e⟩ := List.getElem_of_mem hx
    exact decide_eq_true (hi i (by omega) x (by rw [← e]; exact List.getElem?_eq_getElem hi'))
end Hm
end

section
/- Tasks over sets of facts: what the functions answer, in plain terms. No program in sight. -/
namespace Hm
set_option linter.unusedVariables false
set_option linter.unusedSimpArgs false
open Go
structure SOp where
  pre : List Int
  add : List Int
  del : List Int
  cost : Int
structure STask where
  facts : Int
  init : List Int
  goal : List Int
  ops : List SOp
def soV (o : SOp) : V := .agg [.sl .p (o.pre.map i64V), .sl .p (o.add.map i64V), .sl .p (o.del.map i64V), .int .i64 o.cost]
def skV (t : STask) : V := .agg [.int .i64 t.facts, .sl .p (t.init.map i64V), .sl .p (t.goal.map i64V), .sl .p (t.ops.map soV)]
def skZ : STask := ⟨0, [], [], []⟩
/-- Numbers of memory that can be. -/
structure SkOk (s : STask) : Prop where
  i : s.init.length ≤ 140737488355328
  g : s.goal.length ≤ 140737488355328
  o : s.ops.length ≤ 140737488355328
  e : ∀ o ∈ s.ops, o.pre.length ≤ 140737488355328 ∧ o.add.length ≤ 140737488355328 ∧ o.del.length ≤ 140737488355328
end Hm
end

section
/- Sets of numbers as sorted lists; faults of tasks. No program in sight. -/
namespace Hm
set_option linter.unusedVariables false
set_option linter.unusedSimpArgs false
open Go
def allN (p : Nat → Bool) (n : Nat) : Bool := (List.range n).all p
theorem allN_bad {p : Nat → Bool} {n k : Nat} (hk : k < n) (h : p k = false) : allN p n = false := by
  unfold allN
  rw [List.all_eq_false]
  exact ⟨k, List.mem_range.2 hk, by simp [h]⟩
theorem allN_ok {p : Nat → Bool} {n : Nat} (h : ∀ j, j < n → p j = true) : allN p n = true := by
  unfold allN
  rw [List.all_eq_true]
  exact fun j hj => h j (List.mem_range.1 hj)
theorem allN_get {p : Nat → Bool} {n : Nat} (h : allN p n = true) {j : Nat} (hj : j < n) : p j = true := (List.all_eq_true.1 h) j (List.mem_range.2 hj)
def setAt (n : Int) (l : List Int) (i : Nat) : Bool := match l[i]? with
  | some x => decide (0 ≤ x) && decide (x < n) && (decide (i = 0) || (match l[i - 1]? with
    | some y => decide (y < x)
    | none => true))
  | none => false
def isSetB (n : Int) (l : List Int) : Bool := allN (setAt n l) l.length
def SS (l : List Int) : Prop := l.Pairwise (· < ·)
theorem ss_of_adj : ∀ l : List Int, (∀ i x y, l[i]? = some x → l[i + 1]? = some y → x < y) → SS l
  | [], _ => List.Pairwise.nil
  | [x], _ => List.pairwise_singleton _ _
  | x :: y :: r, h => by
    have ih : SS (y :: r) := ss_of_adj (y :: r) fun i a b h1 h2 => h (i + 1) a b h1 h2
    have hxy : x < y := h 0 x y rfl rfl
    refine List.Pairwise.cons (fun z hz => ?_) ih
    rcases List.mem_cons.1 hz with rfl | hz
    · exact hxy
    · exact Int.lt_trans hxy ((List.pairwise_cons.1 ih).1 z hz)
theorem ss_idx {l : List Int} (h : SS l) {i j : Nat} {x y : Int} (hi : l[i]? = some x) (hj : l[j]? = some y) (hij : i < j) : x < y := by
  obtain ⟨h1, e1⟩ := List.getElem?_eq_some_iff.1 hi
  obtain ⟨h2, e2⟩ := List.getElem?_eq_some_iff.1 hj
  have := List.pairwise_iff_getElem.1 h i j h1 h2 hij
  rw [e1, e2] at this
  exact this
structure IsSet (n : Int) (l : List Int) : Prop where
  ss : SS l
  rng : ∀ x ∈ l, 0 ≤ x ∧ x < n
theorem isSet_of {n : Int} {l : List Int} (h : isSetB n l = true) : IsSet n l := by
  refine ⟨ss_of_adj l fun i x y h1 h2 => ?_, fun x hx => ?_⟩
  · have := allN_get h (get_lt h2)
    unfold setAt at this
    rw [h2] at this
    simp only [Nat.add_sub_cancel, h1, Bool.and_eq_true, Bool.or_eq_true, decide_eq_true_eq] at this
    rcases this.2 with e | e
    · omega
    · exact e
  · obtain ⟨i, hi, e⟩ := List.getElem_of_mem hx
    have hg : l[i]? = some x := by rw [← e]; exact List.getElem?_eq_getElem hi
    have := allN_get h hi
    unfold setAt at this
    rw [hg] at this
    simp only [Bool.and_eq_true, decide_eq_true_eq] at this
    exact this.1
theorem isSet_to {n : Int} {l : List Int} (h : IsSet n l) : isSetB n l = true := by
  refine allN_ok fun i hi => ?_
  obtain ⟨x, hx⟩ := get_some hi
  obtain ⟨h0, h1⟩ := h.rng x (mem_get hx)
  unfold setAt
  rw [hx]
  simp only [Bool.and_eq_true, Bool.or_eq_true, decide_eq_true_eq]
  refine ⟨⟨h0, h1⟩, ?_⟩
  by_cases e : i = 0
  · exact .inl e
  · refine .inr ?_
    obtain ⟨y, hy⟩ := get_some (l := l) (k := i - 1) (by omega)
    rw [hy]
    simpa using ss_idx h.ss hy hx (by omega)
theorem ss_nodup {l : List Int} (h : SS l) : l.Nodup := List.Pairwise.imp (fun h => by omega) h
theorem ss_ext : ∀ {a b : List Int}, SS a → SS b → (∀ x, x ∈ a ↔ x ∈ b) → a = b
  | [], [], _, _, _ => rfl
  | [], y :: b, _, _, h => by have := (h y).2 (by simp); simp at this
  | x :: a, [], _, _, h => by have := (h x).1 (by simp); simp at this
  | x :: a, y :: b, ha, hb, h => by
    have ha' := List.pairwise_cons.1 ha
    have hb' := List.pairwise_cons.1 hb
    have e : x = y := by
      have h1 := (h x).1 (by simp)
      have h2 := (h y).2 (by simp)
      rcases List.mem_cons.1 h1 with e | h1
      · exact e
      · rcases List.mem_cons.1 h2 with e | h2
        · exact e.symm
        · have := ha'.1 y h2; have := hb'.1 x h1; omega
    subst e
    rw [ss_ext ha'.2 hb'.2 fun z => ?_]
    have := h z
    simp only [List.mem_cons] at this
    constructor
    · intro hz
      rcases this.1 (.inr hz) with e | q
      · have := ha'.1 z hz; omega
      · exact q
    · intro hz
      rcases this.2 (.inr hz) with e | q
      · have := hb'.1 z hz; omega
      · exact q
/-- The length of a set of numbers below n. -/
theorem ss_len : ∀ (l : List Int) (m n : Int), SS l → (∀ x ∈ l, m ≤ x ∧ x < n) → m ≤ n → (l.length : Int) ≤ n - m
  | [], m, n, _, _, h => by simp; omega
  | x :: l, m, n, hs, hr, h => by
    have hs' := List.pairwise_cons.1 hs
    have hx := hr x (by simp)
    have := ss_len l (x + 1) n hs'.2 (fun y hy => ⟨by have := hs'.1 y hy; omega, (hr y (by simp [hy])).2⟩) (by omega)
    simp only [List.length_cons]
    omega
theorem isSet_len {n : Int} {l : List Int} (h : IsSet n l) (hn : 0 ≤ n) : (l.length : Int) ≤ n := by
  have := ss_len l 0 n h.ss h.rng hn
  omega
def inclB (part l : List Int) : Bool := part.all fun x => decide (x ∈ l)
def disjB (a b : List Int) : Bool := a.all fun x => decide (x ∉ b)
def meetB (a b : List Int) : Bool := a.any fun x => decide (x ∈ b)
theorem meet_disj (a b : List Int) : meetB a b = !disjB a b := by
  unfold meetB disjB
  induction a with
  | nil => rfl
  | cons x a ih =>
    simp only [List.any_cons, List.all_cons, ih]
    by_cases h : x ∈ b <;> simp [h]
/- Faults of tasks. -/
def sopBad (n : Int) (ops : List SOp) (i : Nat) : Option Flt := match ops[i]? with
  | none => none
  | some o => if isSetB n o.pre = false ∨ isSetB n o.add = false ∨ isSetB n o.del = false ∨ disjB o.add o.del = false then some ⟨5, i⟩ else if o.cost < 0 ∨ o.cost > 100 then some ⟨3, i⟩ else none
def sFault (t : STask) : Flt := if t.facts < 0 ∨ t.facts > 24 then ⟨3, -1⟩ else if isSetB t.facts t.init = false then ⟨5, -2⟩ else if isSetB t.facts t.goal = false then ⟨5, -3⟩
  else if t.ops.length > 40 then ⟨2, -1⟩ else (scan (sopBad t.facts t.ops) 0 t.ops.length).getD okF
structure SOv (n : Int) (o : SOp) : Prop where
  pre : IsSet n o.pre
  add : IsSet n o.add
  del : IsSet n o.del
  dis : ∀ x ∈ o.add, x ∉ o.del
  c0 : 0 ≤ o.cost
  c1 : o.cost ≤ 100
structure SV (t : STask) : Prop where
  f0 : 0 ≤ t.facts
  f1 : t.facts ≤ 24
  init : IsSet t.facts t.init
  goal : IsSet t.facts t.goal
  opl : t.ops.length ≤ 40
  op : ∀ o ∈ t.ops, SOv t.facts o
theorem scan_all {α : Type} {bad : Nat → Option α} : ∀ (n i : Nat), scan bad i n = none → ∀ j, i ≤ j → j < i + n → bad j = none
  | 0, i, _, j, h1, h2 => by omega
  | n + 1, i, h, j, h1, h2 => by
    simp only [scan] at h
    split at h
    · cases h
    · rename_i e
      by_cases hj : j = i
      · rw [hj]; exact e
      · exact scan_all n (i + 1) h j (by omega) (by omega)
theorem scan_codeS {bad : Nat → Option Flt} (hb : ∀ i f, bad i = some f → f.code ≠ 0) : ∀ n i f, scan bad i n = some f → f.code ≠ 0
  | 0, _, _, h => by cases h
  | n + 1, i, f, h => by
    simp only [scan] at h
    split at h
    · rename_i g e; cases h; exact hb _ _ e
    · exact scan_codeS hb n (i + 1) f h
theorem getD_codeS {o : Option Flt} (hc : ∀ f, o = some f → f.code ≠ 0) (h : (o.getD okF).code = 0) : o = none := by
  cases o with
  | none => rfl
  | some f => exact absurd h (hc f rfl)
theorem sopBad_code (n : Int) (ops : List SOp) (i : Nat) : ∀ f, sopBad n ops i = some f → f.code ≠ 0 := by
  intro f h
  unfold sopBad at h
  split at h
  · cases h
  · repeat' split at h
    all_goals cases h
    all_goals simp
theorem sFault_code (t : STask) : (sFault t).code = 0 → SV t ∧ sFault t = okF := by
  intro h
  have h0 := h
  unfold sFault at h
  split at h
  · cases h
  · rename_i h1
    split at h
    · cases h
    · rename_i h2
      split at h
      · cases h
      · rename_i h3
        split at h
        · cases h
        · rename_i h4
          have hs := getD_codeS (scan_codeS (sopBad_code t.facts t.ops) _ _) h
          refine ⟨⟨by omega, by omega, isSet_of (by simpa using h2), isSet_of (by simpa using h3), by omega, fun o ho => ?_⟩, ?_⟩
          · obtain ⟨i, hi, e⟩ := List.getElem_of_mem ho
            have hg : t.ops[i]? = some o := by rw [← e]; exact List.getElem?_eq_getElem hi
            have := scan_all _ _ hs i (Nat.zero_le _) (by omega)
            unfold sopBad at this
            rw [hg] at this
            simp only at this
            split at this
            · cases this
            · rename_i q1
              split at this
              · cases this
              · rename_i q2
                simp only [not_or, Bool.not_eq_false] at q1
                refine ⟨isSet_of q1.1, isSet_of q1.2.1, isSet_of q1.2.2.1, fun x hx => ?_, by omega, by omega⟩
                have := List.all_eq_true.1 q1.2.2.2 x hx
                simpa using this
          · unfold sFault
            rw [if_neg h1, if_neg h2, if_neg h3, if_neg h4, hs]
            rfl
theorem sFault_ok {t : STask} (h : sFault t = okF) : SV t := (sFault_code t (by rw [h]; rfl)).1
theorem sFault_iff (t : STask) : (sFault t).code = 0 ↔ sFault t = okF := ⟨fun h => (sFault_code t h).2, fun h => by rw [h]; rfl⟩
theorem scan_noneS {α : Type} {bad : Nat → Option α} : ∀ (n i : Nat), (∀ j, i ≤ j → j < i + n → bad j = none) → scan bad i n = none := fun n i h => scan_none n i h
theorem sFault_of {t : STask} (h : SV t) : sFault t = okF := by
  unfold sFault
  rw [if_neg (by have := h.f0; have := h.f1; omega), if_neg (by simp [isSet_to h.init]), if_neg (by simp [isSet_to h.goal]), if_neg (by have := h.opl; omega), scan0_none fun j hj => ?_]
  · rfl
  · obtain ⟨o, ho⟩ := get_some hj
    have hv := h.op o (mem_get ho)
    unfold sopBad
    rw [ho]
    simp only [isSet_to hv.pre, isSet_to hv.add, isSet_to hv.del]
    rw [if_neg, if_neg (by have := hv.c0; have := hv.c1; omega)]
    simp only [Bool.true_eq_false, false_or, Bool.not_eq_false]
    exact List.all_eq_true.2 fun x hx => by simpa using hv.dis x hx
/- The set of the numbers below n that pass a test. -/
def selK (p : Nat → Bool) (k : Nat) : List Int := ((List.range k).filter p).map Int.ofNat
theorem selK_succ (p : Nat → Bool) (k : Nat) : selK p (k + 1) = selK p k ++ (if p k = true then [(k : Int)] else []) := by
  unfold selK
  rw [List.range_succ, List.filter_append, List.map_append]
  congr 1
  simp only [List.filter]
  cases p k <;> rfl
theorem selK_len (p : Nat → Bool) (k : Nat) : (selK p k).length ≤ k := by
  unfold selK
  rw [List.length_map]
  exact Nat.le_trans (List.length_filter_le _ _) (by simp)
theorem selK_mem {p : Nat → Bool} {k : Nat} {x : Int} : x ∈ selK p k ↔ 0 ≤ x ∧ x < k ∧ p x.toNat = true := by
  unfold selK
  simp only [List.mem_map, List.mem_filter, List.mem_range]
  constructor
  · rintro ⟨i, ⟨h1, h2⟩, rfl⟩
    exact ⟨by simp, by simpa using h1, by simpa using h2⟩
  · rintro ⟨h0, h1, h2⟩
    exact ⟨x.toNat, ⟨by omega, h2⟩, by simp; omega⟩
theorem selK_ss (p : Nat → Bool) : ∀ k, SS (selK p k)
  | 0 => List.Pairwise.nil
  | k + 1 => by
    rw [selK_succ]
    split
    · refine List.pairwise_append.2 ⟨selK_ss p k, List.pairwise_singleton _ _, fun a ha b hb => ?_⟩
      have := selK_mem.1 ha
      simp at hb
      omega
    · rw [List.append_nil]; exact selK_ss p k
/- Runs of equal numbers, one of each. -/
def keepAt (l : List Int) (i : Nat) : Option Int := match l[i]? with
  | some x => if i = 0 ∨ l[i - 1]? ≠ some x then some x else none
  | none => none
def ddK (l : List Int) (k : Nat) : List Int := (List.range k).filterMap (keepAt l)
theorem ddK_succ (l : List Int) (k : Nat) : ddK l (k + 1) = ddK l k ++ (keepAt l k).toList := by
  unfold ddK
  rw [List.range_succ, List.filterMap_append]
  congr 1
def compL (l : List Int) : List Int := ddK l l.length
theorem ddK_len (l : List Int) (k : Nat) : (ddK l k).length ≤ k := by
  have := List.length_filterMap_le (keepAt l) (List.range k)
  simpa [ddK] using this
theorem ddK_keep {l : List Int} {k : Nat} {x : Int} (hx : l[k]? = some x) (h : k = 0 ∨ l[k - 1]? ≠ some x) : ddK l (k + 1) = ddK l k ++ [x] := by
  rw [ddK_succ, keepAt, hx]; simp only [if_pos h, Option.toList]
theorem ddK_skip {l : List Int} {k : Nat} {x : Int} (hx : l[k]? = some x) (h0 : k ≠ 0) (h : l[k - 1]? = some x) : ddK l (k + 1) = ddK l k := by
  rw [ddK_succ, keepAt, hx]; simp [h0, h]
theorem ddK_all {l : List Int} : ∀ k, k ≤ l.length → (∀ j, 0 < j → j < k → l[j]? ≠ l[j - 1]?) → ddK l k = l.take k
  | 0, _, _ => by simp [ddK]
  | k + 1, h, hn => by
    obtain ⟨x, hx⟩ := get_some (l := l) (k := k) (by omega)
    rw [ddK_keep hx, ddK_all k (by omega) fun j h1 h2 => hn j h1 (by omega), take_succ_get hx]
    by_cases e : k = 0
    · exact .inl e
    · refine .inr fun e2 => hn k (by omega) (by omega) ?_
      rw [hx, e2]
theorem ddK_mem {l : List Int} {x : Int} : ∀ k, k ≤ l.length → (x ∈ ddK l k ↔ x ∈ l.take k)
  | 0, _ => by simp [ddK]
  | k + 1, h => by
    obtain ⟨y, hy⟩ := get_some (l := l) (k := k) (by omega)
    have ih := ddK_mem (l := l) (x := x) k (by omega)
    rw [take_succ_get hy]
    by_cases c : k = 0 ∨ l[k - 1]? ≠ some y
    · rw [ddK_keep hy c]; simp [ih]
    · simp only [not_or, Decidable.not_not] at c
      rw [ddK_skip hy c.1 c.2]
      simp only [List.mem_append, List.mem_singleton, ih]
      constructor
      · exact .inl
      · rintro (e | rfl)
        · exact e
        · obtain ⟨h1, h2⟩ := List.getElem?_eq_some_iff.1 c.2
          exact List.mem_take_iff_getElem.2 ⟨k - 1, by omega, h2⟩
theorem compL_mem {l : List Int} {x : Int} : x ∈ compL l ↔ x ∈ l := by
  unfold compL
  rw [ddK_mem l.length (Nat.le_refl _), List.take_length]
theorem ddK_ss {l : List Int} (hs : l.Pairwise (· ≤ ·)) : ∀ k, k ≤ l.length → SS (ddK l k)
  | 0, _ => by simp [ddK, SS]
  | k + 1, h => by
    obtain ⟨y, hy⟩ := get_some (l := l) (k := k) (by omega)
    have ih := ddK_ss (l := l) hs k (by omega)
    by_cases c : k = 0 ∨ l[k - 1]? ≠ some y
    · rw [ddK_keep hy c]
      refine List.pairwise_append.2 ⟨ih, List.pairwise_singleton _ _, fun a ha b hb => ?_⟩
      simp at hb
      subst hb
      have ha' := (ddK_mem k (by omega)).1 ha
      obtain ⟨i, hi, e⟩ := List.mem_take_iff_getElem.1 ha'
      obtain ⟨h1, e1⟩ := List.getElem?_eq_some_iff.1 hy
      have h2 : a ≤ b := by
        have := List.pairwise_iff_getElem.1 hs i k (by omega) h1 (by omega)
        rw [e, e1] at this; exact this
      rcases c with c | c
      · omega
      · have h3 : l[k - 1]? = some l[k - 1] := List.getElem?_eq_getElem (by omega)
        have h4 : l[k - 1] ≤ b := by
          by_cases hk : k = 0
          · omega
          · have := List.pairwise_iff_getElem.1 hs (k - 1) k (by omega) h1 (by omega)
            rw [e1] at this; exact this
        have h5 : l[k - 1] ≠ b := fun e => c (by rw [h3, e])
        have h6 : a ≤ l[k - 1] := by
          by_cases hik : i = k - 1
          · subst hik; omega
          · have := List.pairwise_iff_getElem.1 hs i (k - 1) (by omega) (by omega) (by omega)
            rw [e] at this; exact this
        omega
    · simp only [not_or, Decidable.not_not] at c
      rw [ddK_skip hy c.1 c.2]; exact ih
def srtL (l : List Int) : List Int := l.mergeSort fun x y => decide (x ≤ y)
theorem srtL_mem {l : List Int} {x : Int} : x ∈ srtL l ↔ x ∈ l := (List.mergeSort_perm l _).mem_iff
theorem srtL_len (l : List Int) : (srtL l).length = l.length := (List.mergeSort_perm l _).length_eq
theorem srtL_pw (l : List Int) : (srtL l).Pairwise (· ≤ ·) := by
  have := List.pairwise_mergeSort (le := fun x y : Int => decide (x ≤ y)) (fun a b c h1 h2 => by simp at *; omega) (fun a b => by simp; omega) l
  exact List.Pairwise.imp (fun h => by simpa using h) this
def updL (s add del : List Int) : List Int := compL (srtL (s.filter (fun x => decide (x ∉ del)) ++ add))
theorem updL_mem {s add del : List Int} {x : Int} : x ∈ updL s add del ↔ (x ∈ s ∧ x ∉ del) ∨ x ∈ add := by
  unfold updL
  rw [compL_mem, srtL_mem]; simp
theorem updL_ss (s add del : List Int) : SS (updL s add del) := ddK_ss (srtL_pw _) _ (Nat.le_refl _)
theorem updL_set {n : Int} {s add del : List Int} (hs : IsSet n s) (ha : IsSet n add) : IsSet n (updL s add del) :=
  ⟨updL_ss _ _ _, fun x hx => by
    rcases updL_mem.1 hx with h | h
    · exact hs.rng x h.1
    · exact ha.rng x h⟩
theorem updL_sel {n : Nat} {s add del : List Int} (hs : IsSet n s) (ha : IsSet n add) (p : Nat → Bool) (hp : ∀ i : Nat, i < n → (p i = true ↔ ((i : Int) ∈ add ∨ ((i : Int) ∈ s ∧ (i : Int) ∉ del)))) : updL s add del = selK p n := by
  refine ss_ext (updL_ss _ _ _) (selK_ss _ _) fun x => ?_
  rw [updL_mem, selK_mem]
  constructor
  · intro h
    have hr : 0 ≤ x ∧ x < n := by
      rcases h with h | h
      · exact hs.rng x h.1
      · exact ha.rng x h
    refine ⟨hr.1, hr.2, (hp x.toNat (by omega)).2 ?_⟩
    rw [show ((x.toNat : Nat) : Int) = x from by omega]
    rcases h with h | h
    · exact .inr h
    · exact .inl h
  · rintro ⟨h0, h1, h2⟩
    have := (hp x.toNat (by omega)).1 h2
    rw [show ((x.toNat : Nat) : Int) = x from by omega] at this
    rcases this with h | h
    · exact .inr h
    · exact .inl h
def badStep (n : Nat) (x : Int) : Bool := decide (x < 0) || decide (x ≥ n)
def stepsF (n : Nat) (plan : List Int) : Flt := if plan.length > 60 then ⟨2, -5⟩ else if plan.any (badStep n) = true then ⟨3, -6⟩ else okF
theorem stepsF_ok {n : Nat} {plan : List Int} (h : stepsF n plan = okF) : plan.length ≤ 60 ∧ ∀ x ∈ plan, 0 ≤ x ∧ x < n := by
  unfold stepsF at h
  split at h
  · cases h
  · split at h
    · cases h
    · rename_i h1 h2
      refine ⟨by omega, fun x hx => ?_⟩
      rw [Bool.not_eq_true, List.any_eq_false] at h2
      have := h2 x hx
      simp [badStep] at this
      omega
theorem stepsF_iff (n : Nat) (plan : List Int) : (stepsF n plan).code = 0 ↔ stepsF n plan = okF := by
  refine ⟨fun h => ?_, fun h => by rw [h]; rfl⟩
  unfold stepsF at h ⊢
  repeat' split at h
  all_goals first | (rename_i h1 h2; rw [if_neg h1, if_neg h2]; done) | cases h
end Hm
end

section
/- Contracts: sets, what two of them share, faults of tasks. -/
namespace Hm
open Go
set_option maxRecDepth 100000
set_option maxHeartbeats 1000000
set_option linter.unusedSimpArgs false
set_option linter.unusedVariables false
def c_strips_IsSet : Cmd :=
  (.seq
   (.ops [
   .op (some 4) none (.mov (.c (.bool false)))])
   (.cut
   (.seq
   (.seq
   (.ops [
   .op (some 7) none (.mov (.t 0)),
   .op (some 8) none (.len false (.t 7)),
   .op (some 9) none (.mov (.c (.int .i64 (0))))])
   (.cut
   (.block 0
   (.loop
   (.seq
   (.ops [
   .op (some 10) none (.bin .lss false [] (.t 9) (.t 8))])
   (.cut
   (.seq
   (.cond (.t 10)
   .skip
   (.exit 0))
   (.cut
   (.seq
   (.block 1
   (.seq
   (.ops [
   .op (some 11) none (.mov (.t 9)),
   .op (some 12) none (.iaddr 1 (.t 7) (.t 9)),
   .op (some 13) none (.load false 1 (.t 12)),
   .op (some 5) none (.mov (.t 11)),
   .op (some 6) none (.mov (.t 13))])
   (.cut
   (.seq
   (.ops [
   .op (some 14) none (.mov (.t 6)),
   .op (some 15) none (.bin .lss false [] (.t 14) (.c (.int .i64 (0)))),
   .op (some 16) none (.mov (.t 15)),
   .op (some 17) (some (16, false)) (.mov (.t 6)),
   .op (some 18) (some (16, false)) (.mov (.t 1)),
   .op (some 19) (some (16, false)) (.bin .geq false [] (.t 17) (.t 18)),
   .op (some 20) none (.pick (.t 16) (.c (.bool true)) (.t 19)),
   .op (some 21) none (.mov (.t 20)),
   .op (some 22) (some (21, false)) (.mov (.t 5)),
   .op (some 23) (some (21, false)) (.bin .gtr false [] (.t 22) (.c (.int .i64 (0)))),
   .op (some 24) (some (21, false)) (.mov (.t 23)),
   .op (some 25) (some (24, true)) (.mov (.t 6)),
   .op (some 26) (some (24, true)) (.mov (.t 0)),
   .op (some 27) (some (24, true)) (.mov (.t 5)),
   .op (some 28) (some (24, true)) (.bin .sub false [] (.t 27) (.c (.int .i64 (1)))),
   .op (some 29) (some (24, true)) (.iaddr 1 (.t 26) (.t 28)),
   .op (some 30) (some (24, true)) (.load false 1 (.t 29)),
   .op (some 31) (some (24, true)) (.bin .leq false [] (.t 25) (.t 30)),
   .op (some 32) (some (21, false)) (.pick (.t 24) (.t 31) (.c (.bool false))),
   .op (some 33) none (.pick (.t 21) (.c (.bool true)) (.t 32))])
   (.cut
   (.cond (.t 33)
   (.seq
   (.ops [
   .op (some 4) none (.mov (.c (.bool false)))])
   .ret)
   .skip))))))
   (.cut
   (.ops [
   .op (some 34) none (.bin .add false [] (.t 9) (.c (.int .i64 (1)))),
   .op (some 9) none (.mov (.t 34))])))))))))))
   (.cut
   (.seq
   (.ops [
   .op (some 4) none (.mov (.c (.bool true)))])
   .ret)))))
def r_strips_IsSet : List RVar := [.tmp 4]
def n_strips_IsSet : Nat := 35
theorem k_strips_IsSet : chkFn Go.Proofs.Try.prog 51 n_strips_IsSet r_strips_IsSet c_strips_IsSet = true := by kernel_rfl
theorem f_strips_IsSet (l : List Int) (n : Int) (hl : l.length ≤ 140737488355328) : Fc Go.Proofs.Try.prog 51 [.sl .p (l.map i64V), .int .i64 n] (.bool (isSetB n l)) := by
  refine Fn.step mixed k_strips_IsSet ?_
  repeat (first | refine i_len rfl ?_ | refine i_s rfl ?_ | refine i_lenm rfl rfl rfl ?_ | refine c_seq ?_ | refine c_cut0 ?_ | refine c_ops ?_ | refine i_nil ?_ | refine e_seq ?_ | refine e_block ?_ | refine c_block ?_ | refine c_skip ?_ | refine c_ret ?_ | refine c_exit ?_ | refine e_exit rfl ?_ | refine i_s0 rfl ?_ | refine c_leaf ?_ | refine i_gt rfl ?_ | refine i_gf rfl ?_ | refine i_gd rfl ?_ | refine c_t rfl ?_ | refine c_f rfl ?_ | refine i_conv rfl (by simp only [InR, List.length_map]; omega) ?_ | refine i_add rfl rfl (by simp only [InR, List.length_map]; omega) ?_ | refine i_sub rfl rfl (by simp only [InR, List.length_map]; omega) ?_ | refine i_ixm rfl rfl (by assumption) ?_ | refine i_iai rfl rfl (by omega) (by assumption) rfl ?_ | refine i_iam rfl rfl (by assumption) rfl ?_ | refine i_tk rfl rfl (by omega) ?_ | refine i_stb rfl ?_ | refine i_alloc rfl ?_ | refine i_box rfl rfl ?_ | refine i_nv rfl ?_)
  refine c_for l.length (fun k => [(0, .sl .p (l.map i64V)), (1, .int .i64 n), (7, .sl .p (l.map i64V)), (8, .int .i64 l.length), (9, .int .i64 k)]) (fun _ => []) (fun k => ∀ j, j < k → setAt n l j = true) all_zero ⟨by repeat (first | exact trivial | refine ⟨rfl, ?_⟩), by repeat (first | exact trivial | refine ⟨rfl, ?_⟩), rfl⟩ fun k hk hi => ?_
  repeat (first | refine i_len rfl ?_ | refine i_s rfl ?_ | refine i_lenm rfl rfl rfl ?_ | refine c_seq ?_ | refine c_cut0 ?_ | refine c_ops ?_ | refine i_nil ?_ | refine e_seq ?_ | refine e_block ?_ | refine c_block ?_ | refine c_skip ?_ | refine c_ret ?_ | refine c_exit ?_ | refine e_exit rfl ?_ | refine i_s0 rfl ?_ | refine c_leaf ?_ | refine i_gt rfl ?_ | refine i_gf rfl ?_ | refine i_gd rfl ?_ | refine c_t rfl ?_ | refine c_f rfl ?_ | refine i_conv rfl (by simp only [InR, List.length_map]; omega) ?_ | refine i_add rfl rfl (by simp only [InR, List.length_map]; omega) ?_ | refine i_sub rfl rfl (by simp only [InR, List.length_map]; omega) ?_ | refine i_ixm rfl rfl (by assumption) ?_ | refine i_iai rfl rfl (by omega) (by assumption) rfl ?_ | refine i_iam rfl rfl (by assumption) rfl ?_ | refine i_tk rfl rfl (by omega) ?_ | refine i_stb rfl ?_ | refine i_alloc rfl ?_ | refine i_box rfl rfl ?_ | refine i_nv rfl ?_)
  refine c_cond rfl (fun h => ?_) (fun h => ?_)
  · have hlt : k < l.length := by simpa using h
    obtain ⟨x, hx⟩ := get_some hlt
    clear h
    by_cases h0 : k = 0
    · have hat : setAt n l k = (decide (0 ≤ x) && decide (x < n)) := by subst h0; simp [setAt, hx]
      subst h0
      repeat' (first | refine i_len rfl ?_ | refine i_s rfl ?_ | refine i_lenm rfl rfl rfl ?_ | refine c_seq ?_ | refine c_cut0 ?_ | refine c_ops ?_ | refine i_nil ?_ | refine e_seq ?_ | refine e_block ?_ | refine c_block ?_ | refine c_skip ?_ | refine c_ret ?_ | refine c_exit ?_ | refine e_exit rfl ?_ | refine i_s0 rfl ?_ | refine c_leaf ?_ | refine i_gt rfl ?_ | refine i_gf rfl ?_ | refine i_gd rfl ?_ | refine c_t rfl ?_ | refine c_f rfl ?_ | refine i_conv rfl (by simp only [InR, List.length_map]; omega) ?_ | refine i_add rfl rfl (by simp only [InR, List.length_map]; omega) ?_ | refine i_sub rfl rfl (by simp only [InR, List.length_map]; omega) ?_ | refine i_ixm rfl rfl (by assumption) ?_ | refine i_iai rfl rfl (by omega) (by assumption) rfl ?_ | refine i_iam rfl rfl (by assumption) rfl ?_ | refine i_tk rfl rfl (by omega) ?_ | refine i_stb rfl ?_ | refine i_alloc rfl ?_ | refine i_box rfl rfl ?_ | refine i_nv rfl ?_ | refine c_node ?_ ?_ | refine i_g rfl (fun h => ?_) (fun h => ?_) | refine c_cond rfl (fun h => ?_) (fun h => ?_))
      all_goals first
        | (refine e_for hlt (all_succ hi (by rw [hat]; clear hi hat hx; simp at *; try omega)) ⟨by repeat (first | exact trivial | refine ⟨rfl, ?_⟩), by repeat (first | exact trivial | refine ⟨rfl, ?_⟩), rfl⟩)
        | (refine e_ret ⟨rfl, _, rfl, congrArg V.bool ?_⟩
           have : setAt n l 0 = false := by rw [hat]; clear hi hat hx; simp at *; try omega
           simp [isSetB, allN_bad hlt this])
        | (exfalso; clear hi hat; simp at *; omega)
    · obtain ⟨y, hy⟩ := get_some (l := l) (k := k - 1) (by omega)
      have hat : setAt n l k = (decide (0 ≤ x) && decide (x < n) && decide (y < x)) := by simp [setAt, hx, h0, hy]
      have h1 : 0 < k := by omega
      have hy' : l[((k : Int) - 1).toNat]? = some y := by rw [show ((k : Int) - 1).toNat = k - 1 from by omega]; exact hy
      repeat' (first | refine i_len rfl ?_ | refine i_s rfl ?_ | refine i_lenm rfl rfl rfl ?_ | refine c_seq ?_ | refine c_cut0 ?_ | refine c_ops ?_ | refine i_nil ?_ | refine e_seq ?_ | refine e_block ?_ | refine c_block ?_ | refine c_skip ?_ | refine c_ret ?_ | refine c_exit ?_ | refine e_exit rfl ?_ | refine i_s0 rfl ?_ | refine c_leaf ?_ | refine i_gt rfl ?_ | refine i_gf rfl ?_ | refine i_gd rfl ?_ | refine c_t rfl ?_ | refine c_f rfl ?_ | refine i_conv rfl (by simp only [InR, List.length_map]; omega) ?_ | refine i_add rfl rfl (by simp only [InR, List.length_map]; omega) ?_ | refine i_sub rfl rfl (by simp only [InR, List.length_map]; omega) ?_ | refine i_ixm rfl rfl (by assumption) ?_ | refine i_iai rfl rfl (by omega) (by assumption) rfl ?_ | refine i_iam rfl rfl (by assumption) rfl ?_ | refine i_tk rfl rfl (by omega) ?_ | refine i_stb rfl ?_ | refine i_alloc rfl ?_ | refine i_box rfl rfl ?_ | refine i_nv rfl ?_ | refine c_node ?_ ?_ | refine i_g rfl (fun h => ?_) (fun h => ?_) | refine c_cond rfl (fun h => ?_) (fun h => ?_))
      all_goals first
        | (refine e_for hlt (all_succ hi (by rw [hat]; clear hi hat hx; simp at *; try omega)) ⟨by repeat (first | exact trivial | refine ⟨rfl, ?_⟩), by repeat (first | exact trivial | refine ⟨rfl, ?_⟩), rfl⟩)
        | (refine e_ret ⟨rfl, _, rfl, congrArg V.bool ?_⟩
           have : setAt n l k = false := by rw [hat]; clear hi hat hx; simp at *; try omega
           simp [isSetB, allN_bad hlt this])
        | (exfalso; clear hi hat; simp at *; omega)
  · have hge : ¬ k < l.length := by simpa using h
    repeat' (first | refine i_len rfl ?_ | refine i_s rfl ?_ | refine i_lenm rfl rfl rfl ?_ | refine c_seq ?_ | refine c_cut0 ?_ | refine c_ops ?_ | refine i_nil ?_ | refine e_seq ?_ | refine e_block ?_ | refine c_block ?_ | refine c_skip ?_ | refine c_ret ?_ | refine c_exit ?_ | refine e_exit rfl ?_ | refine i_s0 rfl ?_ | refine c_leaf ?_ | refine i_gt rfl ?_ | refine i_gf rfl ?_ | refine i_gd rfl ?_ | refine c_t rfl ?_ | refine c_f rfl ?_ | refine i_conv rfl (by simp only [InR, List.length_map]; omega) ?_ | refine i_add rfl rfl (by simp only [InR, List.length_map]; omega) ?_ | refine i_sub rfl rfl (by simp only [InR, List.length_map]; omega) ?_ | refine i_ixm rfl rfl (by assumption) ?_ | refine i_iai rfl rfl (by omega) (by assumption) rfl ?_ | refine i_iam rfl rfl (by assumption) rfl ?_ | refine i_tk rfl rfl (by omega) ?_ | refine i_stb rfl ?_ | refine i_alloc rfl ?_ | refine i_box rfl rfl ?_ | refine i_nv rfl ?_ | refine c_node ?_ ?_ | refine i_g rfl (fun h => ?_) (fun h => ?_) | refine c_cond rfl (fun h => ?_) (fun h => ?_))
    exact e_ret ⟨rfl, _, rfl, congrArg V.bool (by simp [isSetB]; exact allN_ok fun j hj => hi j (by omega))⟩
def c_slices_isNaN_int : Cmd :=
  (.seq
   (.ops [
   .op (some 2) none (.mov (.c (.bool false)))])
   (.cut
   (.seq
   (.ops [
   .op (some 3) none (.mov (.t 0)),
   .op (some 4) none (.mov (.t 0)),
   .op (some 5) none (.bin .neq false [.i] (.t 3) (.t 4)),
   .op (some 2) none (.mov (.t 5))])
   .ret)))
def r_slices_isNaN_int : List RVar := [.tmp 2]
def n_slices_isNaN_int : Nat := 6
theorem k_slices_isNaN_int : chkFn Go.Proofs.Try.prog 63 n_slices_isNaN_int r_slices_isNaN_int c_slices_isNaN_int = true := by kernel_rfl
theorem f_slices_isNaN_int (x : Int) : Fc Go.Proofs.Try.prog 63 [.int .i64 x] (.bool false) := by
  refine Fn.step mixed k_slices_isNaN_int ?_
  repeat' (first | refine i_len rfl ?_ | refine i_s rfl ?_ | refine i_lenm rfl rfl rfl ?_ | refine c_seq ?_ | refine c_cut0 ?_ | refine c_ops ?_ | refine i_nil ?_ | refine e_seq ?_ | refine e_block ?_ | refine c_block ?_ | refine c_skip ?_ | refine c_ret ?_ | refine c_exit ?_ | refine e_exit rfl ?_ | refine i_s0 rfl ?_ | refine c_leaf ?_ | refine i_gt rfl ?_ | refine i_gf rfl ?_ | refine i_gd rfl ?_ | refine c_t rfl ?_ | refine c_f rfl ?_ | refine i_conv rfl (by simp only [InR, List.length_map]; omega) ?_ | refine i_add rfl rfl (by simp only [InR, List.length_map]; omega) ?_ | refine i_sub rfl rfl (by simp only [InR, List.length_map]; omega) ?_ | refine i_ixm rfl rfl (by assumption) ?_ | refine i_iai rfl rfl (by omega) (by assumption) rfl ?_ | refine i_iam rfl rfl (by assumption) rfl ?_ | refine i_tk rfl rfl (by omega) ?_ | refine i_stb rfl ?_ | refine i_alloc rfl ?_ | refine i_box rfl rfl ?_ | refine i_nv rfl ?_ | refine c_node ?_ ?_ | refine i_g rfl (fun h => ?_) (fun h => ?_) | refine c_cond rfl (fun h => ?_) (fun h => ?_))
  exact e_ret ⟨rfl, _, rfl, congrArg V.bool (by simp)⟩
def c_cmp_isNaN_int : Cmd :=
  (.seq
   (.ops [
   .op (some 2) none (.mov (.c (.bool false)))])
   (.cut
   (.seq
   (.ops [
   .op (some 3) none (.mov (.t 0)),
   .op (some 4) none (.mov (.t 0)),
   .op (some 5) none (.bin .neq false [.i] (.t 3) (.t 4)),
   .op (some 2) none (.mov (.t 5))])
   .ret)))
def r_cmp_isNaN_int : List RVar := [.tmp 2]
def n_cmp_isNaN_int : Nat := 6
theorem k_cmp_isNaN_int : chkFn Go.Proofs.Try.prog 67 n_cmp_isNaN_int r_cmp_isNaN_int c_cmp_isNaN_int = true := by kernel_rfl
theorem f_cmp_isNaN_int (x : Int) : Fc Go.Proofs.Try.prog 67 [.int .i64 x] (.bool false) := by
  refine Fn.step mixed k_cmp_isNaN_int ?_
  repeat' (first | refine i_len rfl ?_ | refine i_s rfl ?_ | refine i_lenm rfl rfl rfl ?_ | refine c_seq ?_ | refine c_cut0 ?_ | refine c_ops ?_ | refine i_nil ?_ | refine e_seq ?_ | refine e_block ?_ | refine c_block ?_ | refine c_skip ?_ | refine c_ret ?_ | refine c_exit ?_ | refine e_exit rfl ?_ | refine i_s0 rfl ?_ | refine c_leaf ?_ | refine i_gt rfl ?_ | refine i_gf rfl ?_ | refine i_gd rfl ?_ | refine c_t rfl ?_ | refine c_f rfl ?_ | refine i_conv rfl (by simp only [InR, List.length_map]; omega) ?_ | refine i_add rfl rfl (by simp only [InR, List.length_map]; omega) ?_ | refine i_sub rfl rfl (by simp only [InR, List.length_map]; omega) ?_ | refine i_ixm rfl rfl (by assumption) ?_ | refine i_iai rfl rfl (by omega) (by assumption) rfl ?_ | refine i_iam rfl rfl (by assumption) rfl ?_ | refine i_tk rfl rfl (by omega) ?_ | refine i_stb rfl ?_ | refine i_alloc rfl ?_ | refine i_box rfl rfl ?_ | refine i_nv rfl ?_ | refine c_node ?_ ?_ | refine i_g rfl (fun h => ?_) (fun h => ?_) | refine c_cond rfl (fun h => ?_) (fun h => ?_))
  exact e_ret ⟨rfl, _, rfl, congrArg V.bool (by simp)⟩
def c_cmp_Less_int : Cmd :=
  (.seq
   (.ops [
   .op (some 4) none (.mov (.c (.bool false)))])
   (.cut
   (.seq
   (.ops [
   .op (some 5) none (.mov (.t 0)),
   .op (some 6) none (.call .f (.c (.fn 67 [])) [.t 5]),
   .op (some 7) none (.mov (.t 6)),
   .op (some 8) (some (7, true)) (.mov (.t 1)),
   .op (some 9) (some (7, true)) (.call .f (.c (.fn 67 [])) [.t 8]),
   .op (some 10) (some (7, true)) (.not (.t 9)),
   .op (some 11) none (.pick (.t 7) (.t 10) (.c (.bool false))),
   .op (some 12) none (.mov (.t 11)),
   .op (some 13) (some (12, false)) (.mov (.t 0)),
   .op (some 14) (some (12, false)) (.mov (.t 1)),
   .op (some 15) (some (12, false)) (.bin .lss false [] (.t 13) (.t 14)),
   .op (some 16) none (.pick (.t 12) (.c (.bool true)) (.t 15)),
   .op (some 4) none (.mov (.t 16))])
   .ret)))
def r_cmp_Less_int : List RVar := [.tmp 4]
def n_cmp_Less_int : Nat := 17
theorem k_cmp_Less_int : chkFn Go.Proofs.Try.prog 62 n_cmp_Less_int r_cmp_Less_int c_cmp_Less_int = true := by kernel_rfl
theorem f_cmp_Less_int (x y : Int) : Fc Go.Proofs.Try.prog 62 [.int .i64 x, .int .i64 y] (.bool (decide (x < y))) := by
  refine Fn.step mixed k_cmp_Less_int ?_
  repeat' (first | refine i_len rfl ?_ | refine i_s rfl ?_ | refine i_lenm rfl rfl rfl ?_ | refine c_seq ?_ | refine c_cut0 ?_ | refine c_ops ?_ | refine i_nil ?_ | refine e_seq ?_ | refine e_block ?_ | refine c_block ?_ | refine c_skip ?_ | refine c_ret ?_ | refine c_exit ?_ | refine e_exit rfl ?_ | refine i_s0 rfl ?_ | refine c_leaf ?_ | refine i_gt rfl ?_ | refine i_gf rfl ?_ | refine i_gd rfl ?_ | refine c_t rfl ?_ | refine c_f rfl ?_ | refine i_conv rfl (by simp only [InR, List.length_map]; omega) ?_ | refine i_add rfl rfl (by simp only [InR, List.length_map]; omega) ?_ | refine i_sub rfl rfl (by simp only [InR, List.length_map]; omega) ?_ | refine i_ixm rfl rfl (by assumption) ?_ | refine i_iai rfl rfl (by omega) (by assumption) rfl ?_ | refine i_iam rfl rfl (by assumption) rfl ?_ | refine i_tk rfl rfl (by omega) ?_ | refine i_stb rfl ?_ | refine i_alloc rfl ?_ | refine i_box rfl rfl ?_ | refine i_nv rfl ?_ | refine c_node ?_ ?_ | refine i_g rfl (fun h => ?_) (fun h => ?_) | refine c_cond rfl (fun h => ?_) (fun h => ?_) | refine i_f rfl rfl (f_cmp_isNaN_int _) rfl ?_)
  exact e_ret ⟨rfl, _, rfl, rfl⟩
end Hm
end

section
/- The library's sort of whole numbers: its contract laid at this program, and as a call that changes a named block. -/
namespace Hm
set_option linter.unusedVariables false
set_option linter.unusedSimpArgs false
open Go

/-- A function that only reads, called where names are handed in. -/
theorem ct_of_fn {G : Type} {P : Program} {H : HT G} {f : Nat} {args : List V} {r : V} {pn : List Nat} {σ : Store} {g : G} (h : Fn P f (args.map (er σ 6)) r) (hfl : flatB r = true) (hpn : ∀ nm, nm ∉ pn → σ nm = .unused) :
    CT P H f args pn σ g fun v σ' g' => v = r ∧ σ' = σ ∧ g' = g :=
  ⟨h.1, fun J l hst hM hH w S F θ xs hs hargs => by
    have hcall := h.2 w (All w) _ (fun b hb => hb) (reps_map hargs (fun v x _ hr => hr.er hs 6))
    refine hcall.mono fun e w' he' => ?_
    obtain ⟨x', S', rfl, hr, hS1, hS2, hg⟩ := he'
    exact ⟨r, x', σ, g, _, F, θ, rfl, ⟨rfl, rfl, rfl⟩, St.grow hst hs hg (N := fun _ => False) (fun b hb => hb.elim) (fun b hb => hb.elim), .pure (hr.flat hfl), Fr.grow hs hg (fun b hb => hb.elim), hpn⟩⟩

theorem putRow_set (w : World) (b : Nat) (c : Array Value) (e : TypeId) (fr : Nat × Nat) (d : Array Int) (hb : w.heap[b]? = some (.cells c e fr)) :
    Sort.putRow (Value.int .i64) w b 0 d = w.setRow b (Sort.putCells (Value.int .i64) 0 d c) := by
  unfold Sort.putRow Sort.mapBlock World.setRow
  congr 1
  apply Array.ext_getElem?
  intro k
  simp only [Array.getElem?_modify]
  by_cases hk : b = k
  · subst hk
    simp [hb, Sort.onCells]
  · simp [hk]
theorem putCells_get (d : Array Int) (c : Array Value) (j : Nat) : (Sort.putCells (Value.int .i64) 0 d c)[j]? = (c[j]?).map fun x => if j < d.size then Value.int .i64 d[j]! else x := by
  unfold Sort.putCells
  rw [Array.getElem?_mapIdx]
  simp
theorem ups_same {σ : Store} {nm : Nat} {b : Blk} (h : σ nm = b) : ups σ nm b = σ := by
  funext k
  unfold ups
  cases hb : Nat.beq k nm with
  | true => have := Nat.eq_of_beq_eq_true hb; subst this; exact h.symm
  | false => rfl
theorem ct_sort {G : Type} {P : Program} {H : HT G} {ρ : Shelf.Ren} (Ly : Go.Proofs.Lays.n189 P ρ) (nm gen : Nat) (l : List Int) {pn : List Nat} {σ : Store} {g : G} (hw : wd nm = 1) (hσ : σ nm = .arr gen (l.map i64V)) (hpn : ∀ nm', nm' ∉ pn → σ nm' = .unused)
    (h0 : Fn P (ρ.f 189) [.sl .p []] (.tup [])) (hsz : l.length < 4611686018427387904) :
    CT P H (ρ.f 189) [.msl nm gen 0 l.length] pn σ g fun v σ' g' => v = .tup [] ∧ σ' = ups σ nm (.arr gen ((srtL l).map i64V)) ∧ g' = g := by
  by_cases hl : l = []
  · subst hl
    have := ct_of_fn (G := G) (H := H) (P := P) (f := ρ.f 189) (args := [.msl nm gen 0 0]) (r := .tup []) (pn := pn) (σ := σ) (g := g) (by simpa [er, hσ] using h0) rfl hpn
    refine CT_mono (fun v σ' g' h => ?_) this
    refine ⟨h.1, ?_, h.2.2⟩
    rw [h.2.1]
    exact (ups_same (by simpa [srtL] using hσ)).symm
  refine ⟨h0.1, fun J lc hst hM hH w S F θ xs hs hargs => ?_⟩
  obtain ⟨hlen, hrep⟩ := hargs
  match xs, hlen with
  | [x], _ =>
  have hx := hrep 0 _ x rfl rfl
  have hlen0 : 0 < l.length := List.length_pos_iff.2 hl
  obtain ⟨b, m, cap, hθ, hcap, rfl, hck, hle⟩ : ∃ b m cap, θ nm = some (b, m) ∧ l.length ≤ cap ∧ x = .slice (some ⟨b, 0 * m, none⟩) l.length cap ∧ CapOk w b ((0 + cap) * m) ∧ 0 + l.length ≤ (l.map i64V).length := by
    cases hx with
    | pure h => cases h
    | msl _ _ _ _ _ _ _ _ h =>
      rcases h _ hσ with h | ⟨h, _⟩
      · exact h
      · omega
  have hlv : (σ nm).live := live_arr hσ
  have hblk := hs.hblk nm
  rw [hσ] at hblk
  simp only [BlkOk] at hblk
  rcases hblk with ⟨hn, _⟩ | ⟨b', m', c, e, hθ', hb, hrows, ⟨hm, hsz'⟩, hcells⟩
  · rw [hθ] at hn; cases hn
  rw [hθ] at hθ'
  injection hθ' with hθ'
  injection hθ' with e1 e2
  subst e1 e2
  rw [hw] at hm
  subst hm
  have hgl : b < w.heap.size := (Array.getElem?_eq_some_iff.1 hb).1
  have hcs : l.length ≤ c.size := by simpa using hsz'
  have hcell : ∀ j (hj : j < l.length), c[j]? = some (.int .i64 l[j]) := by
    intro j hj
    obtain ⟨y, h1, h2⟩ := hcells j 0 (i64V l[j]) (i64V l[j]) (by rw [List.getElem?_map, List.getElem?_eq_getElem hj]; rfl) rfl
    cases h2
    simpa using h1
  have hH : Sort.Holds (Value.int .i64) w b 0 l.toArray := by
    intro j hj
    have hj' : j < l.length := by simpa using hj
    refine ⟨?_, ?_⟩
    · rw [Nat.zero_add, cell_of_row w b j c e (0, 0) hb, hcell j hj']
      simp [hj']
    · simp [World.frozen?, hb]
  have hcall := (callsIn_wide (n := 0)).2 (Go.Proofs.Any.slices_Sort_int Ly b 0 cap l w hH hgl hsz)
  simp only [Nat.zero_mul]
  refine hcall.mono fun en w' he' => ?_
  obtain ⟨rfl, n, os, rfl⟩ := he'
  have hg1 : Grow w (Sort.ahead w n) := ⟨Nat.le_refl _, rfl, rfl, rfl, fun _ _ => rfl⟩
  have hs1 := St.grow hst hs hg1 (N := fun _ => False) (fun b hb => hb.elim) (fun b hb => hb.elim)
  have hf1 := Fr.grow hs hg1 (N := fun _ => False) (fun b hb => hb.elim)
  have hb1 : (Sort.ahead w n).heap[b]? = some (.cells c e (0, 0)) := hb
  have hsl : (srtL l).length = l.length := srtL_len l
  rw [show (l.mergeSort fun x y => decide (x ≤ y)) = srtL l from rfl, putRow_set _ b c e (0, 0) _ hb1]
  generalize hc' : Sort.putCells (Value.int .i64) 0 (srtL l).toArray c = c'
  have hcz : c'.size = c.size := by rw [← hc']; simp [Sort.putCells]
  have hf2 : Fr (Sort.ahead w n) (fun b => S b ∨ False) F θ σ ((Sort.ahead w n).setRow b c') (fun b => S b ∨ False) F θ (ups σ nm (.arr gen ((srtL l).map i64V))) := by
    refine Fr.write hs1 nm b 1 c c' e _ hlv hθ hb1 hcz ?_
    rw [hσ]
    exact ⟨(srtL l).map i64V, .inl ⟨rfl, by simp [hsl]⟩⟩
  have hk : BlkOk ((Sort.ahead w n).setRow b c') (fun b => S b ∨ False) θ (ups σ nm (.arr gen ((srtL l).map i64V))) lc nm (.arr gen ((srtL l).map i64V)) := by
    refine .inr ⟨b, 1, c', e, hθ, setRow_heap _ b c c' _ _ hb1, fun row hrow => ?_, ⟨hw.symm, by simp [hsl, hcz]; exact hcs⟩, fun i j row v h1 h2 => ?_⟩
    · obtain ⟨_, _, rfl⟩ := List.mem_map.1 hrow; rfl
    · rw [List.getElem?_map] at h1
      cases h3 : (srtL l)[i]? with
      | none => rw [h3] at h1; cases h1
      | some z =>
        rw [h3] at h1
        cases h1
        have hi : i < (srtL l).length := get_lt h3
        cases j with
        | succ j => cases h2
        | zero =>
          cases h2
          refine ⟨.int .i64 z, ?_, .int _ _⟩
          rw [Nat.mul_one, Nat.add_zero, ← hc', putCells_get, hcell i (by omega)]
          have h4 : i < l.length := by omega
          simp only [Option.map_some, List.size_toArray, hsl, if_pos h4]
          rw [getElem!_pos _ i (by simpa using hi)]
          simp [(List.getElem?_eq_some_iff.1 h3).2]
  have hs2 := St.write hst hs1 nm b 1 c' _ hlv hθ hf2 hk
  have hg3 : Grow ((Sort.ahead w n).setRow b c') (Sort.grow ((Sort.ahead w n).setRow b c') os) :=
    ⟨by simp [Sort.grow], rfl, rfl, rfl, fun b' hb' => by simp [Sort.grow, Array.getElem?_append_left hb']⟩
  have hs3 := St.grow hst hs2 hg3 (N := fun _ => False) (fun b hb => hb.elim) (fun b hb => hb.elim)
  have hf3 := Fr.grow hs2 hg3 (N := fun _ => False) (fun b hb => hb.elim)
  refine ⟨.tup [], _, _, g, _, F, θ, rfl, ⟨rfl, rfl, rfl⟩, hs3, .pure (.tup [] [] rfl fun i v x h1 h2 => by simp at h1), (hf1.trans hs1 hf2).trans hs2 hf3, fun nm' hnm => ?_⟩
  have h5 : nm' ≠ nm := fun h => by rw [h] at hnm; have := hpn nm hnm; rw [this] at hσ; cases hσ
  rw [upt_ne σ _ h5]
  exact hpn nm' hnm
end Hm
end

section
/- The library's sort, laid at this program: its bodies and types, by their numbers here; the call on nothing. -/
namespace Go.Proofs
open Go.Shelf
def Try.sort_ren : Go.Shelf.Ren := ⟨fun | 189 => 58 | 125 => 65 | 257 => 64 | 128 => 76 | 129 => 77 | 294 => 68 | 295 => 69 | 296 => 70 | 297 => 71 | 298 => 72 | 299 => 73 | 216 => 62 | 300 => 74 | 301 => 75 | 328 => 78 | 329 => 79 | 330 => 80 | 331 => 81 | 332 => 82 | 215 => 67 | 343 => 83 | n => n, fun | 28 => 22 | 3 => 3 | 46 => 68 | 0 => 0 | 51 => 81 | 53 => 83 | 4 => 4 | 183 => 75 | 182 => 74 | 131 => 63 | 5 => 5 | 9 => 9 | 218 => 84 | 222 => 88 | 228 => 90 | 229 => 91 | n => n, fun n => n⟩
theorem Try.sort_lays : Lays.n189 Try.prog Try.sort_ren :=
  {
    mixed := by kernel_rfl,
    f125 := Try.func65.trans (congrArg some (by kernel_rfl)),
    f128 := Try.func76.trans (congrArg some (by kernel_rfl)),
    f129 := Try.func77.trans (congrArg some (by kernel_rfl)),
    f189 := Try.func58.trans (congrArg some (by kernel_rfl)),
    f215 := Try.func67.trans (congrArg some (by kernel_rfl)),
    f216 := Try.func62.trans (congrArg some (by kernel_rfl)),
    f257 := Try.func64.trans (congrArg some (by kernel_rfl)),
    f294 := Try.func68.trans (congrArg some (by kernel_rfl)),
    f295 := Try.func69.trans (congrArg some (by kernel_rfl)),
    f296 := Try.func70.trans (congrArg some (by kernel_rfl)),
    f297 := Try.func71.trans (congrArg some (by kernel_rfl)),
    f298 := Try.func72.trans (congrArg some (by kernel_rfl)),
    f299 := Try.func73.trans (congrArg some (by kernel_rfl)),
    f300 := Try.func74.trans (congrArg some (by kernel_rfl)),
    f301 := Try.func75.trans (congrArg some (by kernel_rfl)),
    f328 := Try.func78.trans (congrArg some (by kernel_rfl)),
    f329 := Try.func79.trans (congrArg some (by kernel_rfl)),
    f330 := Try.func80.trans (congrArg some (by kernel_rfl)),
    f331 := Try.func81.trans (congrArg some (by kernel_rfl)),
    f332 := Try.func82.trans (congrArg some (by kernel_rfl)),
    f343 := Try.func83.trans (congrArg some (by kernel_rfl)),
    t0 := Try.underlying0,
    a0 := Try.isAgg0,
    z0 := Try.sizeOf0,
    v0 := Try.zeroValue0,
    t3 := Try.underlying3,
    a3 := Try.isAgg3,
    z3 := Try.sizeOf3,
    v3 := Try.zeroValue3,
    t4 := Try.underlying4,
    a4 := Try.isAgg4,
    z4 := Try.sizeOf4,
    v4 := Try.zeroValue4,
    t5 := Try.underlying5,
    a5 := Try.isAgg5,
    z5 := Try.sizeOf5,
    v5 := Try.zeroValue5,
    t9 := Try.underlying9,
    a9 := Try.isAgg9,
    z9 := Try.sizeOf9,
    v9 := Try.zeroValue9,
    t28 := Try.underlying22,
    a28 := Try.isAgg22,
    z28 := Try.sizeOf22,
    v28 := Try.zeroValue22,
    t46 := Try.underlying68,
    a46 := Try.isAgg68,
    z46 := Try.sizeOf68,
    v46 := Try.zeroValue68,
    t51 := Try.underlying81,
    a51 := Try.isAgg81,
    z51 := Try.sizeOf81,
    v51 := Try.zeroValue81,
    t53 := Try.underlying83,
    a53 := Try.isAgg83,
    z53 := Try.sizeOf83,
    v53 := Try.zeroValue83,
    t131 := Try.underlying63,
    a131 := Try.isAgg63,
    z131 := Try.sizeOf63,
    v131 := Try.zeroValue63,
    t182 := Try.underlying74,
    a182 := Try.isAgg74,
    z182 := Try.sizeOf74,
    v182 := Try.zeroValue74,
    t183 := Try.underlying75,
    a183 := Try.isAgg75,
    z183 := Try.sizeOf75,
    v183 := Try.zeroValue75,
    t218 := Try.underlying84,
    a218 := Try.isAgg84,
    z218 := Try.sizeOf84,
    v218 := Try.zeroValue84,
    t222 := Try.underlying88,
    a222 := Try.isAgg88,
    z222 := Try.sizeOf88,
    v222 := Try.zeroValue88,
    t228 := Try.underlying90,
    a228 := Try.isAgg90,
    z228 := Try.sizeOf90,
    v228 := Try.zeroValue90,
    t229 := Try.underlying91,
    a229 := Try.isAgg91,
    z229 := Try.sizeOf91,
    v229 := Try.zeroValue91 }
end Go.Proofs
namespace Hm
open Go
set_option maxRecDepth 100000
set_option maxHeartbeats 1000000
set_option linter.unusedVariables false
set_option linter.unusedSimpArgs false
def c_math_bits_Len64 : Cmd :=
  (.seq
   (.ops [
   .op (some 2) none (.mov (.c (.int .i64 (0))))])
   (.cut
   (.seq
   (.seq
   (.ops [
   .op (some 3) none (.mov (.t 0)),
   .op (some 4) none (.bin .geq false [] (.t 3) (.c (.int .u64 (4294967296))))])
   (.cut
   (.cond (.t 4)
   (.seq
   (.ops [
   .op (some 5) none (.mov (.t 0)),
   .op (some 6) none (.bin .shr false [] (.t 5) (.c (.int .u64 (32)))),
   .op (some 0) none (.mov (.t 6))])
   (.cut
   (.ops [
   .op (some 2) none (.mov (.c (.int .i64 (32))))])))
   .skip)))
   (.cut
   (.seq
   (.seq
   (.ops [
   .op (some 7) none (.mov (.t 0)),
   .op (some 8) none (.bin .geq false [] (.t 7) (.c (.int .u64 (65536))))])
   (.cut
   (.cond (.t 8)
   (.seq
   (.ops [
   .op (some 9) none (.mov (.t 0)),
   .op (some 10) none (.bin .shr false [] (.t 9) (.c (.int .u64 (16)))),
   .op (some 0) none (.mov (.t 10))])
   (.cut
   (.ops [
   .op (some 11) none (.mov (.t 2)),
   .op (some 12) none (.bin .add false [] (.t 11) (.c (.int .i64 (16)))),
   .op (some 2) none (.mov (.t 12))])))
   .skip)))
   (.cut
   (.seq
   (.seq
   (.ops [
   .op (some 13) none (.mov (.t 0)),
   .op (some 14) none (.bin .geq false [] (.t 13) (.c (.int .u64 (256))))])
   (.cut
   (.cond (.t 14)
   (.seq
   (.ops [
   .op (some 15) none (.mov (.t 0)),
   .op (some 16) none (.bin .shr false [] (.t 15) (.c (.int .u64 (8)))),
   .op (some 0) none (.mov (.t 16))])
   (.cut
   (.ops [
   .op (some 17) none (.mov (.t 2)),
   .op (some 18) none (.bin .add false [] (.t 17) (.c (.int .i64 (8)))),
   .op (some 2) none (.mov (.t 18))])))
   .skip)))
   (.cut
   (.seq
   (.ops [
   .op (some 19) none (.mov (.t 2)),
   .op (some 20) none (.mov (.t 0)),
   .op (some 21) none (.conv .u8 (.t 20)),
   .op (some 22) none (.index (.c (.str [0, 1, 2, 2, 3, 3, 3, 3, 4, 4, 4, 4, 4, 4, 4, 4, 5, 5, 5, 5, 5, 5, 5, 5, 5, 5, 5, 5, 5, 5, 5, 5, 6, 6, 6, 6, 6, 6, 6, 6, 6, 6, 6, 6, 6, 6, 6, 6, 6, 6, 6, 6, 6, 6, 6, 6, 6, 6, 6, 6, 6, 6, 6, 6, 7, 7, 7, 7, 7, 7, 7, 7, 7, 7, 7, 7, 7, 7, 7, 7, 7, 7, 7, 7, 7, 7, 7, 7, 7, 7, 7, 7, 7, 7, 7, 7, 7, 7, 7, 7, 7, 7, 7, 7, 7, 7, 7, 7, 7, 7, 7, 7, 7, 7, 7, 7, 7, 7, 7, 7, 7, 7, 7, 7, 7, 7, 7, 7, 8, 8, 8, 8, 8, 8, 8, 8, 8, 8, 8, 8, 8, 8, 8, 8, 8, 8, 8, 8, 8, 8, 8, 8, 8, 8, 8, 8, 8, 8, 8, 8, 8, 8, 8, 8, 8, 8, 8, 8, 8, 8, 8, 8, 8, 8, 8, 8, 8, 8, 8, 8, 8, 8, 8, 8, 8, 8, 8, 8, 8, 8, 8, 8, 8, 8, 8, 8, 8, 8, 8, 8, 8, 8, 8, 8, 8, 8, 8, 8, 8, 8, 8, 8, 8, 8, 8, 8, 8, 8, 8, 8, 8, 8, 8, 8, 8, 8, 8, 8, 8, 8, 8, 8, 8, 8, 8, 8, 8, 8, 8, 8, 8, 8, 8, 8, 8, 8, 8, 8, 8, 8, 8, 8, 8, 8, 8, 8])) (.t 21)),
   .op (some 23) none (.conv .i64 (.t 22)),
   .op (some 24) none (.bin .add false [] (.t 19) (.t 23)),
   .op (some 2) none (.mov (.t 24))])
   .ret)))))))))
def r_math_bits_Len64 : List RVar := [.tmp 2]
def n_math_bits_Len64 : Nat := 25
theorem k_math_bits_Len64 : chkFn Go.Proofs.Try.prog 77 n_math_bits_Len64 r_math_bits_Len64 c_math_bits_Len64 = true := by kernel_rfl
theorem f_bits_Len64_0 : Fc Go.Proofs.Try.prog 77 [.int .u64 0] (.int .i64 0) := by
  refine Fn.step mixed k_math_bits_Len64 ?_
  repeat' (first | refine i_len rfl ?_ | refine i_s rfl ?_ | refine i_lenm rfl rfl rfl ?_ | refine c_seq ?_ | refine c_cut0 ?_ | refine c_ops ?_ | refine i_nil ?_ | refine e_seq ?_ | refine e_block ?_ | refine c_block ?_ | refine c_skip ?_ | refine c_ret ?_ | refine c_exit ?_ | refine e_exit rfl ?_ | refine i_s0 rfl ?_ | refine c_leaf ?_ | refine i_gt rfl ?_ | refine i_gf rfl ?_ | refine i_gd rfl ?_ | refine c_t rfl ?_ | refine c_f rfl ?_ | refine i_conv rfl (by simp only [InR, List.length_map]; omega) ?_ | refine i_add rfl rfl (by simp only [InR, List.length_map]; omega) ?_ | refine i_sub rfl rfl (by simp only [InR, List.length_map]; omega) ?_ | refine i_ixm rfl rfl (by assumption) ?_ | refine i_iai rfl rfl (by omega) (by assumption) rfl ?_ | refine i_iam rfl rfl (by assumption) rfl ?_ | refine i_tk rfl rfl (by omega) ?_ | refine i_stb rfl ?_ | refine i_alloc rfl ?_ | refine i_box rfl rfl ?_ | refine i_nv rfl ?_ | refine c_node ?_ ?_ | refine i_g rfl (fun h => ?_) (fun h => ?_) | refine c_cond rfl (fun h => ?_) (fun h => ?_))
  refine i_ix rfl rfl (by decide) (c := 0) (by decide +kernel) ?_
  repeat' (first | refine i_len rfl ?_ | refine i_s rfl ?_ | refine i_lenm rfl rfl rfl ?_ | refine c_seq ?_ | refine c_cut0 ?_ | refine c_ops ?_ | refine i_nil ?_ | refine e_seq ?_ | refine e_block ?_ | refine c_block ?_ | refine c_skip ?_ | refine c_ret ?_ | refine c_exit ?_ | refine e_exit rfl ?_ | refine i_s0 rfl ?_ | refine c_leaf ?_ | refine i_gt rfl ?_ | refine i_gf rfl ?_ | refine i_gd rfl ?_ | refine c_t rfl ?_ | refine c_f rfl ?_ | refine i_conv rfl (by simp only [InR, List.length_map]; omega) ?_ | refine i_add rfl rfl (by simp only [InR, List.length_map]; omega) ?_ | refine i_sub rfl rfl (by simp only [InR, List.length_map]; omega) ?_ | refine i_ixm rfl rfl (by assumption) ?_ | refine i_iai rfl rfl (by omega) (by assumption) rfl ?_ | refine i_iam rfl rfl (by assumption) rfl ?_ | refine i_tk rfl rfl (by omega) ?_ | refine i_stb rfl ?_ | refine i_alloc rfl ?_ | refine i_box rfl rfl ?_ | refine i_nv rfl ?_ | refine c_node ?_ ?_ | refine i_g rfl (fun h => ?_) (fun h => ?_) | refine c_cond rfl (fun h => ?_) (fun h => ?_))
  refine i_conv (n := 0) rfl ⟨by decide, by decide⟩ ?_
  repeat' (first | refine i_len rfl ?_ | refine i_s rfl ?_ | refine i_lenm rfl rfl rfl ?_ | refine c_seq ?_ | refine c_cut0 ?_ | refine c_ops ?_ | refine i_nil ?_ | refine e_seq ?_ | refine e_block ?_ | refine c_block ?_ | refine c_skip ?_ | refine c_ret ?_ | refine c_exit ?_ | refine e_exit rfl ?_ | refine i_s0 rfl ?_ | refine c_leaf ?_ | refine i_gt rfl ?_ | refine i_gf rfl ?_ | refine i_gd rfl ?_ | refine c_t rfl ?_ | refine c_f rfl ?_ | refine i_conv rfl (by simp only [InR, List.length_map]; omega) ?_ | refine i_add rfl rfl (by simp only [InR, List.length_map]; omega) ?_ | refine i_sub rfl rfl (by simp only [InR, List.length_map]; omega) ?_ | refine i_ixm rfl rfl (by assumption) ?_ | refine i_iai rfl rfl (by omega) (by assumption) rfl ?_ | refine i_iam rfl rfl (by assumption) rfl ?_ | refine i_tk rfl rfl (by omega) ?_ | refine i_stb rfl ?_ | refine i_alloc rfl ?_ | refine i_box rfl rfl ?_ | refine i_nv rfl ?_ | refine c_node ?_ ?_ | refine i_g rfl (fun h => ?_) (fun h => ?_) | refine c_cond rfl (fun h => ?_) (fun h => ?_))
  exact e_ret ⟨rfl, _, rfl, rfl⟩
def c_math_bits_Len : Cmd :=
  (.seq
   (.ops [
   .op (some 2) none (.mov (.c (.int .i64 (0))))])
   (.cut
   (.seq
   (.cond (.c (.bool false))
   (.seq
   (.ops [
   .op (some 3) none (.mov (.t 0)),
   .op (some 4) none (.conv .u32 (.t 3)),
   .op (some 5) none (.call .f (.c (.fn 76 [])) [.t 4]),
   .op (some 2) none (.mov (.t 5))])
   .ret)
   .skip)
   (.cut
   (.seq
   (.ops [
   .op (some 6) none (.mov (.t 0)),
   .op (some 7) none (.call .f (.c (.fn 77 [])) [.t 6]),
   .op (some 2) none (.mov (.t 7))])
   .ret)))))
def r_math_bits_Len : List RVar := [.tmp 2]
def n_math_bits_Len : Nat := 8
theorem k_math_bits_Len : chkFn Go.Proofs.Try.prog 65 n_math_bits_Len r_math_bits_Len c_math_bits_Len = true := by kernel_rfl
theorem f_bits_Len_0 : Fc Go.Proofs.Try.prog 65 [.int .u64 0] (.int .i64 0) := by
  refine Fn.step mixed k_math_bits_Len ?_
  repeat' (first | refine i_len rfl ?_ | refine i_s rfl ?_ | refine i_lenm rfl rfl rfl ?_ | refine c_seq ?_ | refine c_cut0 ?_ | refine c_ops ?_ | refine i_nil ?_ | refine e_seq ?_ | refine e_block ?_ | refine c_block ?_ | refine c_skip ?_ | refine c_ret ?_ | refine c_exit ?_ | refine e_exit rfl ?_ | refine i_s0 rfl ?_ | refine c_leaf ?_ | refine i_gt rfl ?_ | refine i_gf rfl ?_ | refine i_gd rfl ?_ | refine c_t rfl ?_ | refine c_f rfl ?_ | refine i_conv rfl (by simp only [InR, List.length_map]; omega) ?_ | refine i_add rfl rfl (by simp only [InR, List.length_map]; omega) ?_ | refine i_sub rfl rfl (by simp only [InR, List.length_map]; omega) ?_ | refine i_ixm rfl rfl (by assumption) ?_ | refine i_iai rfl rfl (by omega) (by assumption) rfl ?_ | refine i_iam rfl rfl (by assumption) rfl ?_ | refine i_tk rfl rfl (by omega) ?_ | refine i_stb rfl ?_ | refine i_alloc rfl ?_ | refine i_box rfl rfl ?_ | refine i_nv rfl ?_ | refine c_node ?_ ?_ | refine i_g rfl (fun h => ?_) (fun h => ?_) | refine c_cond rfl (fun h => ?_) (fun h => ?_) | refine i_f rfl rfl (f_bits_Len64_0) rfl ?_)
  exact e_ret ⟨rfl, _, rfl, rfl⟩
def c_slices_insertionSortOrdered_int : Cmd :=
  (.seq
   (.ops [
   .op (some 8) none (.mov (.t 1)),
   .op (some 9) none (.bin .add false [] (.t 8) (.c (.int .i64 (1)))),
   .op (some 6) none (.mov (.t 9))])
   (.cut
   (.block 0
   (.loop
   (.seq
   (.seq
   (.ops [
   .op (some 10) none (.mov (.t 6)),
   .op (some 11) none (.mov (.t 2)),
   .op (some 12) none (.bin .lss false [] (.t 10) (.t 11))])
   (.cut
   (.cond (.t 12)
   .skip
   (.exit 0))))
   (.cut
   (.seq
   (.block 1
   (.seq
   (.ops [
   .op (some 15) none (.mov (.t 6)),
   .op (some 7) none (.mov (.t 15))])
   (.cut
   (.block 2
   (.loop
   (.seq
   (.seq
   (.ops [
   .op (some 16) none (.mov (.t 7)),
   .op (some 17) none (.mov (.t 1)),
   .op (some 18) none (.bin .gtr false [] (.t 16) (.t 17)),
   .op (some 19) none (.mov (.t 18)),
   .op (some 20) (some (19, true)) (.mov (.t 0)),
   .op (some 21) (some (19, true)) (.mov (.t 7)),
   .op (some 22) (some (19, true)) (.iaddr 1 (.t 20) (.t 21)),
   .op (some 23) (some (19, true)) (.load false 1 (.t 22)),
   .op (some 24) (some (19, true)) (.mov (.t 0)),
   .op (some 25) (some (19, true)) (.mov (.t 7)),
   .op (some 26) (some (19, true)) (.bin .sub false [] (.t 25) (.c (.int .i64 (1)))),
   .op (some 27) (some (19, true)) (.iaddr 1 (.t 24) (.t 26)),
   .op (some 28) (some (19, true)) (.load false 1 (.t 27)),
   .op (some 29) (some (19, true)) (.call .f (.c (.fn 62 [])) [.t 23, .t 28]),
   .op (some 30) none (.pick (.t 19) (.t 29) (.c (.bool false)))])
   (.cut
   (.cond (.t 30)
   .skip
   (.exit 2))))
   (.cut
   (.seq
   (.block 3
   (.ops [
   .op (some 33) none (.mov (.t 0)),
   .op (some 34) none (.mov (.t 7)),
   .op (some 35) none (.mov (.t 0)),
   .op (some 36) none (.mov (.t 7)),
   .op (some 37) none (.bin .sub false [] (.t 36) (.c (.int .i64 (1)))),
   .op (some 38) none (.mov (.t 0)),
   .op (some 39) none (.mov (.t 7)),
   .op (some 40) none (.bin .sub false [] (.t 39) (.c (.int .i64 (1)))),
   .op (some 41) none (.iaddr 1 (.t 38) (.t 40)),
   .op (some 42) none (.load false 1 (.t 41)),
   .op (some 43) none (.mov (.t 0)),
   .op (some 44) none (.mov (.t 7)),
   .op (some 45) none (.iaddr 1 (.t 43) (.t 44)),
   .op (some 46) none (.load false 1 (.t 45)),
   .op (some 47) none (.iaddr 1 (.t 33) (.t 34)),
   .op none none (.store 1 (.t 47) (.t 42)),
   .op (some 48) none (.iaddr 1 (.t 35) (.t 37)),
   .op none none (.store 1 (.t 48) (.t 46))]))
   (.cut
   (.ops [
   .op (some 31) none (.mov (.t 7)),
   .op (some 32) none (.bin .sub false [] (.t 31) (.c (.int .i64 (1)))),
   .op (some 7) none (.mov (.t 32))]))))))))))
   (.cut
   (.ops [
   .op (some 13) none (.mov (.t 6)),
   .op (some 14) none (.bin .add false [] (.t 13) (.c (.int .i64 (1)))),
   .op (some 6) none (.mov (.t 14))])))))))))
def r_slices_insertionSortOrdered_int : List RVar := []
def n_slices_insertionSortOrdered_int : Nat := 49
theorem k_slices_insertionSortOrdered_int : chkFn Go.Proofs.Try.prog 68 n_slices_insertionSortOrdered_int r_slices_insertionSortOrdered_int c_slices_insertionSortOrdered_int = true := by kernel_rfl
theorem f_insertionSort_0 : Fc Go.Proofs.Try.prog 68 [.sl .p [], .int .i64 0, .int .i64 0] (.tup []) := by
  refine Fn.step mixed k_slices_insertionSortOrdered_int ?_
  repeat' (first | refine i_len rfl ?_ | refine i_s rfl ?_ | refine i_lenm rfl rfl rfl ?_ | refine c_seq ?_ | refine c_cut0 ?_ | refine c_ops ?_ | refine i_nil ?_ | refine e_seq ?_ | refine e_block ?_ | refine c_block ?_ | refine c_skip ?_ | refine c_ret ?_ | refine c_exit ?_ | refine e_exit rfl ?_ | refine i_s0 rfl ?_ | refine c_leaf ?_ | refine i_gt rfl ?_ | refine i_gf rfl ?_ | refine i_gd rfl ?_ | refine c_t rfl ?_ | refine c_f rfl ?_ | refine i_conv rfl (by simp only [InR, List.length_map]; omega) ?_ | refine i_add rfl rfl (by simp only [InR, List.length_map]; omega) ?_ | refine i_sub rfl rfl (by simp only [InR, List.length_map]; omega) ?_ | refine i_ixm rfl rfl (by assumption) ?_ | refine i_iai rfl rfl (by omega) (by assumption) rfl ?_ | refine i_iam rfl rfl (by assumption) rfl ?_ | refine i_tk rfl rfl (by omega) ?_ | refine i_stb rfl ?_ | refine i_alloc rfl ?_ | refine i_box rfl rfl ?_ | refine i_nv rfl ?_ | refine c_node ?_ ?_ | refine i_g rfl (fun h => ?_) (fun h => ?_) | refine c_cond rfl (fun h => ?_) (fun h => ?_))
  refine c_lp (ι := Unit) (fun _ => [(0, .sl .p []), (1, .int .i64 0), (2, .int .i64 0), (6, .int .i64 1)]) (fun _ => []) (fun _ => True) (fun _ => 0) () trivial ⟨by repeat (first | exact trivial | refine ⟨rfl, ?_⟩), by repeat (first | exact trivial | refine ⟨rfl, ?_⟩), rfl⟩ fun _ _ => ?_
  repeat' (first | refine i_len rfl ?_ | refine i_s rfl ?_ | refine i_lenm rfl rfl rfl ?_ | refine c_seq ?_ | refine c_cut0 ?_ | refine c_ops ?_ | refine i_nil ?_ | refine e_seq ?_ | refine e_block ?_ | refine c_block ?_ | refine c_skip ?_ | refine c_ret ?_ | refine c_exit ?_ | refine e_exit rfl ?_ | refine i_s0 rfl ?_ | refine c_leaf ?_ | refine i_gt rfl ?_ | refine i_gf rfl ?_ | refine i_gd rfl ?_ | refine c_t rfl ?_ | refine c_f rfl ?_ | refine i_conv rfl (by simp only [InR, List.length_map]; omega) ?_ | refine i_add rfl rfl (by simp only [InR, List.length_map]; omega) ?_ | refine i_sub rfl rfl (by simp only [InR, List.length_map]; omega) ?_ | refine i_ixm rfl rfl (by assumption) ?_ | refine i_iai rfl rfl (by omega) (by assumption) rfl ?_ | refine i_iam rfl rfl (by assumption) rfl ?_ | refine i_tk rfl rfl (by omega) ?_ | refine i_stb rfl ?_ | refine i_alloc rfl ?_ | refine i_box rfl rfl ?_ | refine i_nv rfl ?_ | refine c_node ?_ ?_ | refine i_g rfl (fun h => ?_) (fun h => ?_) | refine c_cond rfl (fun h => ?_) (fun h => ?_))
  refine e_end ⟨rfl, _, rfl, rfl⟩
def c_slices_pdqsortOrdered_int : Cmd :=
  (.seq
   (.ops [
   .op (some 8) none (.mov (.c (.bool true)))])
   (.cut
   (.seq
   (.ops [
   .op (some 9) none (.mov (.c (.bool true)))])
   (.cut
   (.block 0
   (.loop
   (.block 1
   (.seq
   (.ops [
   .op (some 19) none (.mov (.t 2)),
   .op (some 20) none (.mov (.t 1)),
   .op (some 21) none (.bin .sub false [] (.t 19) (.t 20)),
   .op (some 10) none (.mov (.t 21))])
   (.cut
   (.seq
   (.seq
   (.ops [
   .op (some 22) none (.mov (.t 10)),
   .op (some 23) none (.bin .leq false [] (.t 22) (.c (.int .i64 (12))))])
   (.cut
   (.cond (.t 23)
   (.seq
   (.ops [
   .op (some 24) none (.mov (.t 0)),
   .op (some 25) none (.mov (.t 1)),
   .op (some 26) none (.mov (.t 2)),
   .op (some 27) none (.call .f (.c (.fn 68 [])) [.t 24, .t 25, .t 26])])
   .ret)
   .skip)))
   (.cut
   (.seq
   (.seq
   (.ops [
   .op (some 28) none (.mov (.t 3)),
   .op (some 29) none (.bin .eql false [.i] (.t 28) (.c (.int .i64 (0))))])
   (.cut
   (.cond (.t 29)
   (.seq
   (.ops [
   .op (some 30) none (.mov (.t 0)),
   .op (some 31) none (.mov (.t 1)),
   .op (some 32) none (.mov (.t 2)),
   .op (some 33) none (.call .f (.c (.fn 69 [])) [.t 30, .t 31, .t 32])])
   .ret)
   .skip)))
   (.cut
   (.seq
   (.seq
   (.ops [
   .op (some 34) none (.mov (.t 8)),
   .op (some 35) none (.not (.t 34))])
   (.cut
   (.cond (.t 35)
   (.seq
   (.ops [
   .op (some 36) none (.mov (.t 0)),
   .op (some 37) none (.mov (.t 1)),
   .op (some 38) none (.mov (.t 2)),
   .op (some 39) none (.call .f (.c (.fn 70 [])) [.t 36, .t 37, .t 38])])
   (.cut
   (.ops [
   .op (some 40) none (.mov (.t 3)),
   .op (some 41) none (.bin .sub false [] (.t 40) (.c (.int .i64 (1)))),
   .op (some 3) none (.mov (.t 41))])))
   .skip)))
   (.cut
   (.seq
   (.ops [
   .op (some 43) none (.mov (.t 0)),
   .op (some 44) none (.mov (.t 1)),
   .op (some 45) none (.mov (.t 2)),
   .op (some 46) none (.call .f (.c (.fn 71 [])) [.t 43, .t 44, .t 45]),
   .op (some 42) none (.mov (.t 46)),
   .op (some 47) none (.extract (.t 42) 0),
   .op (some 48) none (.extract (.t 42) 1),
   .op (some 11) none (.mov (.t 47)),
   .op (some 12) none (.mov (.t 48))])
   (.cut
   (.seq
   (.seq
   (.ops [
   .op (some 49) none (.mov (.t 12)),
   .op (some 50) none (.bin .eql false [.i] (.t 49) (.c (.int .i64 (2))))])
   (.cut
   (.cond (.t 50)
   (.seq
   (.ops [
   .op (some 51) none (.mov (.t 0)),
   .op (some 52) none (.mov (.t 1)),
   .op (some 53) none (.mov (.t 2)),
   .op (some 54) none (.call .f (.c (.fn 72 [])) [.t 51, .t 52, .t 53])])
   (.cut
   (.seq
   (.ops [
   .op (some 55) none (.mov (.t 2)),
   .op (some 56) none (.bin .sub false [] (.t 55) (.c (.int .i64 (1)))),
   .op (some 57) none (.mov (.t 11)),
   .op (some 58) none (.mov (.t 1)),
   .op (some 59) none (.bin .sub false [] (.t 57) (.t 58)),
   .op (some 60) none (.bin .sub false [] (.t 56) (.t 59)),
   .op (some 11) none (.mov (.t 60))])
   (.cut
   (.ops [
   .op (some 12) none (.mov (.c (.int .i64 (1))))])))))
   .skip)))
   (.cut
   (.seq
   (.seq
   (.ops [
   .op (some 61) none (.mov (.t 8)),
   .op (some 62) none (.mov (.t 61)),
   .op (some 63) (some (62, true)) (.mov (.t 9)),
   .op (some 64) none (.pick (.t 62) (.t 63) (.c (.bool false))),
   .op (some 65) none (.mov (.t 64)),
   .op (some 66) (some (65, true)) (.mov (.t 12)),
   .op (some 67) (some (65, true)) (.bin .eql false [.i] (.t 66) (.c (.int .i64 (1)))),
   .op (some 68) none (.pick (.t 65) (.t 67) (.c (.bool false)))])
   (.cut
   (.cond (.t 68)
   (.seq
   (.ops [
   .op (some 69) none (.mov (.t 0)),
   .op (some 70) none (.mov (.t 1)),
   .op (some 71) none (.mov (.t 2)),
   .op (some 72) none (.call .f (.c (.fn 73 [])) [.t 69, .t 70, .t 71])])
   (.cut
   (.cond (.t 72)
   .ret
   .skip)))
   .skip)))
   (.cut
   (.seq
   (.seq
   (.ops [
   .op (some 73) none (.mov (.t 1)),
   .op (some 74) none (.bin .gtr false [] (.t 73) (.c (.int .i64 (0)))),
   .op (some 75) none (.mov (.t 74)),
   .op (some 76) (some (75, true)) (.mov (.t 0)),
   .op (some 77) (some (75, true)) (.mov (.t 1)),
   .op (some 78) (some (75, true)) (.bin .sub false [] (.t 77) (.c (.int .i64 (1)))),
   .op (some 79) (some (75, true)) (.iaddr 1 (.t 76) (.t 78)),
   .op (some 80) (some (75, true)) (.load false 1 (.t 79)),
   .op (some 81) (some (75, true)) (.mov (.t 0)),
   .op (some 82) (some (75, true)) (.mov (.t 11)),
   .op (some 83) (some (75, true)) (.iaddr 1 (.t 81) (.t 82)),
   .op (some 84) (some (75, true)) (.load false 1 (.t 83)),
   .op (some 85) (some (75, true)) (.call .f (.c (.fn 62 [])) [.t 80, .t 84]),
   .op (some 86) (some (75, true)) (.not (.t 85)),
   .op (some 87) none (.pick (.t 75) (.t 86) (.c (.bool false)))])
   (.cut
   (.cond (.t 87)
   (.seq
   (.ops [
   .op (some 88) none (.mov (.t 0)),
   .op (some 89) none (.mov (.t 1)),
   .op (some 90) none (.mov (.t 2)),
   .op (some 91) none (.mov (.t 11)),
   .op (some 92) none (.call .f (.c (.fn 74 [])) [.t 88, .t 89, .t 90, .t 91]),
   .op (some 13) none (.mov (.t 92))])
   (.cut
   (.seq
   (.ops [
   .op (some 93) none (.mov (.t 13)),
   .op (some 1) none (.mov (.t 93))])
   (.cut
   (.exit 1)))))
   .skip)))
   (.cut
   (.seq
   (.ops [
   .op (some 95) none (.mov (.t 0)),
   .op (some 96) none (.mov (.t 1)),
   .op (some 97) none (.mov (.t 2)),
   .op (some 98) none (.mov (.t 11)),
   .op (some 99) none (.call .f (.c (.fn 75 [])) [.t 95, .t 96, .t 97, .t 98]),
   .op (some 94) none (.mov (.t 99)),
   .op (some 100) none (.extract (.t 94) 0),
   .op (some 101) none (.extract (.t 94) 1),
   .op (some 14) none (.mov (.t 100)),
   .op (some 15) none (.mov (.t 101))])
   (.cut
   (.seq
   (.ops [
   .op (some 102) none (.mov (.t 15)),
   .op (some 9) none (.mov (.t 102))])
   (.cut
   (.seq
   (.ops [
   .op (some 103) none (.mov (.t 14)),
   .op (some 104) none (.mov (.t 1)),
   .op (some 105) none (.bin .sub false [] (.t 103) (.t 104)),
   .op (some 106) none (.mov (.t 2)),
   .op (some 107) none (.mov (.t 14)),
   .op (some 108) none (.bin .sub false [] (.t 106) (.t 107)),
   .op (some 16) none (.mov (.t 105)),
   .op (some 17) none (.mov (.t 108))])
   (.cut
   (.seq
   (.ops [
   .op (some 109) none (.mov (.t 10)),
   .op (some 110) none (.bin .quo false [] (.t 109) (.c (.int .i64 (8)))),
   .op (some 18) none (.mov (.t 110))])
   (.cut
   (.seq
   (.ops [
   .op (some 111) none (.mov (.t 16)),
   .op (some 112) none (.mov (.t 17)),
   .op (some 113) none (.bin .lss false [] (.t 111) (.t 112))])
   (.cut
   (.cond (.t 113)
   (.seq
   (.ops [
   .op (some 114) none (.mov (.t 16)),
   .op (some 115) none (.mov (.t 18)),
   .op (some 116) none (.bin .geq false [] (.t 114) (.t 115)),
   .op (some 8) none (.mov (.t 116))])
   (.cut
   (.seq
   (.ops [
   .op (some 117) none (.mov (.t 0)),
   .op (some 118) none (.mov (.t 1)),
   .op (some 119) none (.mov (.t 14)),
   .op (some 120) none (.mov (.t 3)),
   .op (some 121) none (.call .f (.c (.fn 64 [])) [.t 117, .t 118, .t 119, .t 120])])
   (.cut
   (.ops [
   .op (some 122) none (.mov (.t 14)),
   .op (some 123) none (.bin .add false [] (.t 122) (.c (.int .i64 (1)))),
   .op (some 1) none (.mov (.t 123))])))))
   (.seq
   (.ops [
   .op (some 124) none (.mov (.t 17)),
   .op (some 125) none (.mov (.t 18)),
   .op (some 126) none (.bin .geq false [] (.t 124) (.t 125)),
   .op (some 8) none (.mov (.t 126))])
   (.cut
   (.seq
   (.ops [
   .op (some 127) none (.mov (.t 0)),
   .op (some 128) none (.mov (.t 14)),
   .op (some 129) none (.bin .add false [] (.t 128) (.c (.int .i64 (1)))),
   .op (some 130) none (.mov (.t 2)),
   .op (some 131) none (.mov (.t 3)),
   .op (some 132) none (.call .f (.c (.fn 64 [])) [.t 127, .t 129, .t 130, .t 131])])
   (.cut
   (.ops [
   .op (some 133) none (.mov (.t 14)),
   .op (some 2) none (.mov (.t 133))])))))))))))))))))))))))))))))))))))))))
def r_slices_pdqsortOrdered_int : List RVar := []
def n_slices_pdqsortOrdered_int : Nat := 134
theorem k_slices_pdqsortOrdered_int : chkFn Go.Proofs.Try.prog 64 n_slices_pdqsortOrdered_int r_slices_pdqsortOrdered_int c_slices_pdqsortOrdered_int = true := by kernel_rfl
theorem f_pdqsort_0 : Fc Go.Proofs.Try.prog 64 [.sl .p [], .int .i64 0, .int .i64 0, .int .i64 0] (.tup []) := by
  refine Fn.step mixed k_slices_pdqsortOrdered_int ?_
  repeat' (first | refine i_len rfl ?_ | refine i_s rfl ?_ | refine i_lenm rfl rfl rfl ?_ | refine c_seq ?_ | refine c_cut0 ?_ | refine c_ops ?_ | refine i_nil ?_ | refine e_seq ?_ | refine e_block ?_ | refine c_block ?_ | refine c_skip ?_ | refine c_ret ?_ | refine c_exit ?_ | refine e_exit rfl ?_ | refine i_s0 rfl ?_ | refine c_leaf ?_ | refine i_gt rfl ?_ | refine i_gf rfl ?_ | refine i_gd rfl ?_ | refine c_t rfl ?_ | refine c_f rfl ?_ | refine i_conv rfl (by simp only [InR, List.length_map]; omega) ?_ | refine i_add rfl rfl (by simp only [InR, List.length_map]; omega) ?_ | refine i_sub rfl rfl (by simp only [InR, List.length_map]; omega) ?_ | refine i_ixm rfl rfl (by assumption) ?_ | refine i_iai rfl rfl (by omega) (by assumption) rfl ?_ | refine i_iam rfl rfl (by assumption) rfl ?_ | refine i_tk rfl rfl (by omega) ?_ | refine i_stb rfl ?_ | refine i_alloc rfl ?_ | refine i_box rfl rfl ?_ | refine i_nv rfl ?_ | refine c_node ?_ ?_ | refine i_g rfl (fun h => ?_) (fun h => ?_) | refine c_cond rfl (fun h => ?_) (fun h => ?_))
  refine c_lp (ι := Unit) (fun _ => [(0, .sl .p []), (1, .int .i64 0), (2, .int .i64 0), (3, .int .i64 0)]) (fun _ => []) (fun _ => True) (fun _ => 0) () trivial ⟨by repeat (first | exact trivial | refine ⟨rfl, ?_⟩), by repeat (first | exact trivial | refine ⟨rfl, ?_⟩), rfl⟩ fun _ _ => ?_
  repeat' (first | refine i_len rfl ?_ | refine i_s rfl ?_ | refine i_lenm rfl rfl rfl ?_ | refine c_seq ?_ | refine c_cut0 ?_ | refine c_ops ?_ | refine i_nil ?_ | refine e_seq ?_ | refine e_block ?_ | refine c_block ?_ | refine c_skip ?_ | refine c_ret ?_ | refine c_exit ?_ | refine e_exit rfl ?_ | refine i_s0 rfl ?_ | refine c_leaf ?_ | refine i_gt rfl ?_ | refine i_gf rfl ?_ | refine i_gd rfl ?_ | refine c_t rfl ?_ | refine c_f rfl ?_ | refine i_conv rfl (by simp only [InR, List.length_map]; omega) ?_ | refine i_add rfl rfl (by simp only [InR, List.length_map]; omega) ?_ | refine i_sub rfl rfl (by simp only [InR, List.length_map]; omega) ?_ | refine i_ixm rfl rfl (by assumption) ?_ | refine i_iai rfl rfl (by omega) (by assumption) rfl ?_ | refine i_iam rfl rfl (by assumption) rfl ?_ | refine i_tk rfl rfl (by omega) ?_ | refine i_stb rfl ?_ | refine i_alloc rfl ?_ | refine i_box rfl rfl ?_ | refine i_nv rfl ?_ | refine c_node ?_ ?_ | refine i_g rfl (fun h => ?_) (fun h => ?_) | refine c_cond rfl (fun h => ?_) (fun h => ?_) | refine i_f rfl rfl (f_insertionSort_0) rfl ?_)
  exact e_ret ⟨rfl, _, rfl, rfl⟩
def c_slices_Sort_int : Cmd :=
  (.seq
   (.ops [
   .op (some 3) none (.mov (.t 0)),
   .op (some 4) none (.len false (.t 3)),
   .op (some 2) none (.mov (.t 4))])
   (.cut
   (.ops [
   .op (some 5) none (.mov (.t 0)),
   .op (some 6) none (.mov (.t 2)),
   .op (some 7) none (.mov (.t 2)),
   .op (some 8) none (.conv .u64 (.t 7)),
   .op (some 9) none (.call .f (.c (.fn 65 [])) [.t 8]),
   .op (some 10) none (.call .f (.c (.fn 64 [])) [.t 5, .c (.int .i64 (0)), .t 6, .t 9])])))
def r_slices_Sort_int : List RVar := []
def n_slices_Sort_int : Nat := 11
theorem k_slices_Sort_int : chkFn Go.Proofs.Try.prog 58 n_slices_Sort_int r_slices_Sort_int c_slices_Sort_int = true := by kernel_rfl
theorem f_Sort_0 : Fc Go.Proofs.Try.prog 58 [.sl .p []] (.tup []) := by
  refine Fn.step mixed k_slices_Sort_int ?_
  repeat' (first | refine i_len rfl ?_ | refine i_s rfl ?_ | refine i_lenm rfl rfl rfl ?_ | refine c_seq ?_ | refine c_cut0 ?_ | refine c_ops ?_ | refine i_nil ?_ | refine e_seq ?_ | refine e_block ?_ | refine c_block ?_ | refine c_skip ?_ | refine c_ret ?_ | refine c_exit ?_ | refine e_exit rfl ?_ | refine i_s0 rfl ?_ | refine c_leaf ?_ | refine i_gt rfl ?_ | refine i_gf rfl ?_ | refine i_gd rfl ?_ | refine c_t rfl ?_ | refine c_f rfl ?_ | refine i_conv rfl (by simp only [InR, List.length_map]; omega) ?_ | refine i_add rfl rfl (by simp only [InR, List.length_map]; omega) ?_ | refine i_sub rfl rfl (by simp only [InR, List.length_map]; omega) ?_ | refine i_ixm rfl rfl (by assumption) ?_ | refine i_iai rfl rfl (by omega) (by assumption) rfl ?_ | refine i_iam rfl rfl (by assumption) rfl ?_ | refine i_tk rfl rfl (by omega) ?_ | refine i_stb rfl ?_ | refine i_alloc rfl ?_ | refine i_box rfl rfl ?_ | refine i_nv rfl ?_ | refine c_node ?_ ?_ | refine i_g rfl (fun h => ?_) (fun h => ?_) | refine c_cond rfl (fun h => ?_) (fun h => ?_))
  refine i_conv (n := 0) rfl ⟨by decide, by decide⟩ ?_
  repeat' (first | refine i_len rfl ?_ | refine i_s rfl ?_ | refine i_lenm rfl rfl rfl ?_ | refine c_seq ?_ | refine c_cut0 ?_ | refine c_ops ?_ | refine i_nil ?_ | refine e_seq ?_ | refine e_block ?_ | refine c_block ?_ | refine c_skip ?_ | refine c_ret ?_ | refine c_exit ?_ | refine e_exit rfl ?_ | refine i_s0 rfl ?_ | refine c_leaf ?_ | refine i_gt rfl ?_ | refine i_gf rfl ?_ | refine i_gd rfl ?_ | refine c_t rfl ?_ | refine c_f rfl ?_ | refine i_conv rfl (by simp only [InR, List.length_map]; omega) ?_ | refine i_add rfl rfl (by simp only [InR, List.length_map]; omega) ?_ | refine i_sub rfl rfl (by simp only [InR, List.length_map]; omega) ?_ | refine i_ixm rfl rfl (by assumption) ?_ | refine i_iai rfl rfl (by omega) (by assumption) rfl ?_ | refine i_iam rfl rfl (by assumption) rfl ?_ | refine i_tk rfl rfl (by omega) ?_ | refine i_stb rfl ?_ | refine i_alloc rfl ?_ | refine i_box rfl rfl ?_ | refine i_nv rfl ?_ | refine c_node ?_ ?_ | refine i_g rfl (fun h => ?_) (fun h => ?_) | refine c_cond rfl (fun h => ?_) (fun h => ?_) | refine i_f rfl rfl (f_bits_Len_0) rfl ?_ | refine i_f rfl rfl (f_pdqsort_0) rfl ?_)
  refine e_end ⟨rfl, _, rfl, rfl⟩
theorem c_Sort {G : Type} {H : HT G} (nm gen : Nat) (l : List Int) {pn : List Nat} {σ : Store} {g : G} (hw : wd nm = 1) (hσ : σ nm = .arr gen (l.map i64V)) (hpn : ∀ nm', σ nm' ≠ .unused → nm' ∈ pn) (hsz : l.length < 4611686018427387904) :
    Cc Go.Proofs.Try.prog H 58 [.msl nm gen 0 l.length] pn σ g fun v σ' g' => v = .tup [] ∧ σ' = ups σ nm (.arr gen ((srtL l).map i64V)) ∧ g' = g :=
  ⟨ct_sort (ρ := Go.Proofs.Try.sort_ren) Go.Proofs.Try.sort_lays nm gen l hw hσ (fun nm' h => Classical.byContradiction fun h' => h (hpn nm' h')) f_Sort_0.out hsz⟩
end Hm
end

section
/- Contracts: searching; tasks that are valid. -/
namespace Hm
open Go
set_option maxRecDepth 100000
set_option maxHeartbeats 1000000
set_option linter.unusedSimpArgs false
set_option linter.unusedVariables false
def c_slices_IndexFunc_int : Cmd :=
  (.seq
   (.ops [
   .op (some 4) none (.mov (.c (.int .i64 (0))))])
   (.cut
   (.seq
   (.seq
   (.ops [
   .op (some 6) none (.mov (.t 0)),
   .op (some 7) none (.len false (.t 6)),
   .op (some 8) none (.mov (.c (.int .i64 (0))))])
   (.cut
   (.block 0
   (.loop
   (.seq
   (.ops [
   .op (some 9) none (.bin .lss false [] (.t 8) (.t 7))])
   (.cut
   (.seq
   (.cond (.t 9)
   .skip
   (.exit 0))
   (.cut
   (.seq
   (.block 1
   (.seq
   (.ops [
   .op (some 10) none (.mov (.t 8)),
   .op (some 5) none (.mov (.t 10))])
   (.cut
   (.seq
   (.ops [
   .op (some 11) none (.mov (.t 1)),
   .op (some 12) none (.mov (.t 0)),
   .op (some 13) none (.mov (.t 5)),
   .op (some 14) none (.iaddr 1 (.t 12) (.t 13)),
   .op (some 15) none (.load false 1 (.t 14)),
   .op (some 16) none (.call .f (.t 11) [.t 15])])
   (.cut
   (.cond (.t 16)
   (.seq
   (.ops [
   .op (some 17) none (.mov (.t 5)),
   .op (some 4) none (.mov (.t 17))])
   .ret)
   .skip))))))
   (.cut
   (.ops [
   .op (some 18) none (.bin .add false [] (.t 8) (.c (.int .i64 (1)))),
   .op (some 8) none (.mov (.t 18))])))))))))))
   (.cut
   (.seq
   (.ops [
   .op (some 4) none (.mov (.c (.int .i64 (-1))))])
   .ret)))))
def r_slices_IndexFunc_int : List RVar := [.tmp 4]
def n_slices_IndexFunc_int : Nat := 19
theorem k_slices_IndexFunc_int : chkFn Go.Proofs.Try.prog 66 n_slices_IndexFunc_int r_slices_IndexFunc_int c_slices_IndexFunc_int = true := by kernel_rfl
theorem f_IndexFunc_int (l : List Int) (p : Int → Bool) (fid : Nat) (caps : List V) (hl : l.length ≤ 140737488355328) (he : ∀ σ n, caps.map (er σ (n + 1)) = caps) (hc : closedL [] caps = true) (hp : ∀ t ∈ l, Fc Go.Proofs.Try.prog fid (i64V t :: caps) (.bool (p t))) :
    Fc Go.Proofs.Try.prog 66 [.sl .p (l.map i64V), .fn fid caps] (.int .i64 (fidx p l)) := by
  refine Fn.step mixed k_slices_IndexFunc_int ?_
  repeat (first | refine i_len rfl ?_ | refine i_s rfl ?_ | refine i_lenm rfl rfl rfl ?_ | refine c_seq ?_ | refine c_cut0 ?_ | refine c_ops ?_ | refine i_nil ?_ | refine e_seq ?_ | refine e_block ?_ | refine c_block ?_ | refine c_skip ?_ | refine c_ret ?_ | refine c_exit ?_ | refine e_exit rfl ?_ | refine i_s0 rfl ?_ | refine c_leaf ?_ | refine i_gt rfl ?_ | refine i_gf rfl ?_ | refine i_gd rfl ?_ | refine c_t rfl ?_ | refine c_f rfl ?_ | refine i_conv rfl (by simp only [InR, List.length_map]; omega) ?_ | refine i_add rfl rfl (by simp only [InR, List.length_map]; omega) ?_ | refine i_sub rfl rfl (by simp only [InR, List.length_map]; omega) ?_ | refine i_ixm rfl rfl (by assumption) ?_ | refine i_iai rfl rfl (by omega) (by assumption) rfl ?_ | refine i_iam rfl rfl (by assumption) rfl ?_ | refine i_tk rfl rfl (by omega) ?_ | refine i_stb rfl ?_ | refine i_alloc rfl ?_ | refine i_box rfl rfl ?_ | refine i_nv rfl ?_)
  refine c_for l.length (fun k => [(0, .sl .p (l.map i64V)), (1, .fn fid caps), (7, .int .i64 l.length), (8, .int .i64 k)]) (fun _ => []) (fun k => ∀ j, j < k → ∀ c, l[j]? = some c → p c = false) all_zero ?_ fun k hk hi => ?_
  · exact ⟨⟨rfl, rfl, rfl, rfl, trivial⟩, trivial, by simp [fitB, closedE, closedB, hc, closedSt, hasAll]⟩
  repeat (first | refine i_len rfl ?_ | refine i_s rfl ?_ | refine i_lenm rfl rfl rfl ?_ | refine c_seq ?_ | refine c_cut0 ?_ | refine c_ops ?_ | refine i_nil ?_ | refine e_seq ?_ | refine e_block ?_ | refine c_block ?_ | refine c_skip ?_ | refine c_ret ?_ | refine c_exit ?_ | refine e_exit rfl ?_ | refine i_s0 rfl ?_ | refine c_leaf ?_ | refine i_gt rfl ?_ | refine i_gf rfl ?_ | refine i_gd rfl ?_ | refine c_t rfl ?_ | refine c_f rfl ?_ | refine i_conv rfl (by simp only [InR, List.length_map]; omega) ?_ | refine i_add rfl rfl (by simp only [InR, List.length_map]; omega) ?_ | refine i_sub rfl rfl (by simp only [InR, List.length_map]; omega) ?_ | refine i_ixm rfl rfl (by assumption) ?_ | refine i_iai rfl rfl (by omega) (by assumption) rfl ?_ | refine i_iam rfl rfl (by assumption) rfl ?_ | refine i_tk rfl rfl (by omega) ?_ | refine i_stb rfl ?_ | refine i_alloc rfl ?_ | refine i_box rfl rfl ?_ | refine i_nv rfl ?_)
  refine c_cond rfl (fun h => ?_) (fun h => ?_)
  · have hlt : k < l.length := by simpa using h
    obtain ⟨c, hget⟩ := get_some hlt
    repeat (first | refine i_len rfl ?_ | refine i_s rfl ?_ | refine i_lenm rfl rfl rfl ?_ | refine c_seq ?_ | refine c_cut0 ?_ | refine c_ops ?_ | refine i_nil ?_ | refine e_seq ?_ | refine e_block ?_ | refine c_block ?_ | refine c_skip ?_ | refine c_ret ?_ | refine c_exit ?_ | refine e_exit rfl ?_ | refine i_s0 rfl ?_ | refine c_leaf ?_ | refine i_gt rfl ?_ | refine i_gf rfl ?_ | refine i_gd rfl ?_ | refine c_t rfl ?_ | refine c_f rfl ?_ | refine i_conv rfl (by simp only [InR, List.length_map]; omega) ?_ | refine i_add rfl rfl (by simp only [InR, List.length_map]; omega) ?_ | refine i_sub rfl rfl (by simp only [InR, List.length_map]; omega) ?_ | refine i_ixm rfl rfl (by assumption) ?_ | refine i_iai rfl rfl (by omega) (by assumption) rfl ?_ | refine i_iam rfl rfl (by assumption) rfl ?_ | refine i_tk rfl rfl (by omega) ?_ | refine i_stb rfl ?_ | refine i_alloc rfl ?_ | refine i_box rfl rfl ?_ | refine i_nv rfl ?_)
    refine i_f rfl (congrArg (i64V c :: ·) (he _ 5)) (hp c (mem_get hget)) rfl ?_
    repeat' (first | refine i_len rfl ?_ | refine i_s rfl ?_ | refine i_lenm rfl rfl rfl ?_ | refine c_seq ?_ | refine c_cut0 ?_ | refine c_ops ?_ | refine i_nil ?_ | refine e_seq ?_ | refine e_block ?_ | refine c_block ?_ | refine c_skip ?_ | refine c_ret ?_ | refine c_exit ?_ | refine e_exit rfl ?_ | refine i_s0 rfl ?_ | refine c_leaf ?_ | refine i_gt rfl ?_ | refine i_gf rfl ?_ | refine i_gd rfl ?_ | refine c_t rfl ?_ | refine c_f rfl ?_ | refine i_conv rfl (by simp only [InR, List.length_map]; omega) ?_ | refine i_add rfl rfl (by simp only [InR, List.length_map]; omega) ?_ | refine i_sub rfl rfl (by simp only [InR, List.length_map]; omega) ?_ | refine i_ixm rfl rfl (by assumption) ?_ | refine i_iai rfl rfl (by omega) (by assumption) rfl ?_ | refine i_iam rfl rfl (by assumption) rfl ?_ | refine i_tk rfl rfl (by omega) ?_ | refine i_stb rfl ?_ | refine i_alloc rfl ?_ | refine i_box rfl rfl ?_ | refine i_nv rfl ?_ | refine c_node ?_ ?_ | refine i_g rfl (fun h => ?_) (fun h => ?_) | refine c_cond rfl (fun h => ?_) (fun h => ?_))
    · refine e_ret ⟨rfl, _, rfl, congrArg (V.int .i64) (fidx_hit hi hget h)⟩
    · refine e_for hlt (all_succ hi fun c' hc' => ?_) ⟨⟨rfl, rfl, rfl, rfl, trivial⟩, trivial, by simp [fitB, closedE, closedB, hc, closedSt, hasAll]⟩
      rw [hget] at hc'; cases hc'; exact h
  · have hge : ¬ k < l.length := by simpa using h
    repeat' (first | refine i_len rfl ?_ | refine i_s rfl ?_ | refine i_lenm rfl rfl rfl ?_ | refine c_seq ?_ | refine c_cut0 ?_ | refine c_ops ?_ | refine i_nil ?_ | refine e_seq ?_ | refine e_block ?_ | refine c_block ?_ | refine c_skip ?_ | refine c_ret ?_ | refine c_exit ?_ | refine e_exit rfl ?_ | refine i_s0 rfl ?_ | refine c_leaf ?_ | refine i_gt rfl ?_ | refine i_gf rfl ?_ | refine i_gd rfl ?_ | refine c_t rfl ?_ | refine c_f rfl ?_ | refine i_conv rfl (by simp only [InR, List.length_map]; omega) ?_ | refine i_add rfl rfl (by simp only [InR, List.length_map]; omega) ?_ | refine i_sub rfl rfl (by simp only [InR, List.length_map]; omega) ?_ | refine i_ixm rfl rfl (by assumption) ?_ | refine i_iai rfl rfl (by omega) (by assumption) rfl ?_ | refine i_iam rfl rfl (by assumption) rfl ?_ | refine i_tk rfl rfl (by omega) ?_ | refine i_stb rfl ?_ | refine i_alloc rfl ?_ | refine i_box rfl rfl ?_ | refine i_nv rfl ?_ | refine c_node ?_ ?_ | refine i_g rfl (fun h => ?_) (fun h => ?_) | refine c_cond rfl (fun h => ?_) (fun h => ?_))
    refine e_ret ⟨rfl, _, rfl, congrArg (V.int .i64) (fidx_none fun j hj => hi j (by omega))⟩
def c_slices_ContainsFunc_int : Cmd :=
  (.seq
   (.ops [
   .op (some 4) none (.mov (.c (.bool false)))])
   (.cut
   (.seq
   (.ops [
   .op (some 5) none (.mov (.t 0)),
   .op (some 6) none (.mov (.t 1)),
   .op (some 7) none (.call .f (.c (.fn 66 [])) [.t 5, .t 6]),
   .op (some 8) none (.bin .geq false [] (.t 7) (.c (.int .i64 (0)))),
   .op (some 4) none (.mov (.t 8))])
   .ret)))
def r_slices_ContainsFunc_int : List RVar := [.tmp 4]
def n_slices_ContainsFunc_int : Nat := 9
theorem k_slices_ContainsFunc_int : chkFn Go.Proofs.Try.prog 60 n_slices_ContainsFunc_int r_slices_ContainsFunc_int c_slices_ContainsFunc_int = true := by kernel_rfl
theorem f_ContainsFunc_int (l : List Int) (p : Int → Bool) (fid : Nat) (caps : List V) (hl : l.length ≤ 140737488355328) (he : ∀ σ n, caps.map (er σ (n + 1)) = caps) (hc : closedL [] caps = true) (hp : ∀ t ∈ l, Fc Go.Proofs.Try.prog fid (i64V t :: caps) (.bool (p t))) :
    Fc Go.Proofs.Try.prog 60 [.sl .p (l.map i64V), .fn fid caps] (.bool (l.any p)) := by
  refine Fn.step mixed k_slices_ContainsFunc_int ?_
  repeat (first | refine i_len rfl ?_ | refine i_s rfl ?_ | refine i_lenm rfl rfl rfl ?_ | refine c_seq ?_ | refine c_cut0 ?_ | refine c_ops ?_ | refine i_nil ?_ | refine e_seq ?_ | refine e_block ?_ | refine c_block ?_ | refine c_skip ?_ | refine c_ret ?_ | refine c_exit ?_ | refine e_exit rfl ?_ | refine i_s0 rfl ?_ | refine c_leaf ?_ | refine i_gt rfl ?_ | refine i_gf rfl ?_ | refine i_gd rfl ?_ | refine c_t rfl ?_ | refine c_f rfl ?_ | refine i_conv rfl (by simp only [InR, List.length_map]; omega) ?_ | refine i_add rfl rfl (by simp only [InR, List.length_map]; omega) ?_ | refine i_sub rfl rfl (by simp only [InR, List.length_map]; omega) ?_ | refine i_ixm rfl rfl (by assumption) ?_ | refine i_iai rfl rfl (by omega) (by assumption) rfl ?_ | refine i_iam rfl rfl (by assumption) rfl ?_ | refine i_tk rfl rfl (by omega) ?_ | refine i_stb rfl ?_ | refine i_alloc rfl ?_ | refine i_box rfl rfl ?_ | refine i_nv rfl ?_)
  refine i_f rfl (congrArg (fun x => [V.sl .p (l.map i64V), .fn fid x]) (he _ 4)) (f_IndexFunc_int l p fid caps hl he hc hp) rfl ?_
  repeat' (first | refine i_len rfl ?_ | refine i_s rfl ?_ | refine i_lenm rfl rfl rfl ?_ | refine c_seq ?_ | refine c_cut0 ?_ | refine c_ops ?_ | refine i_nil ?_ | refine e_seq ?_ | refine e_block ?_ | refine c_block ?_ | refine c_skip ?_ | refine c_ret ?_ | refine c_exit ?_ | refine e_exit rfl ?_ | refine i_s0 rfl ?_ | refine c_leaf ?_ | refine i_gt rfl ?_ | refine i_gf rfl ?_ | refine i_gd rfl ?_ | refine c_t rfl ?_ | refine c_f rfl ?_ | refine i_conv rfl (by simp only [InR, List.length_map]; omega) ?_ | refine i_add rfl rfl (by simp only [InR, List.length_map]; omega) ?_ | refine i_sub rfl rfl (by simp only [InR, List.length_map]; omega) ?_ | refine i_ixm rfl rfl (by assumption) ?_ | refine i_iai rfl rfl (by omega) (by assumption) rfl ?_ | refine i_iam rfl rfl (by assumption) rfl ?_ | refine i_tk rfl rfl (by omega) ?_ | refine i_stb rfl ?_ | refine i_alloc rfl ?_ | refine i_box rfl rfl ?_ | refine i_nv rfl ?_ | refine c_node ?_ ?_ | refine i_g rfl (fun h => ?_) (fun h => ?_) | refine c_cond rfl (fun h => ?_) (fun h => ?_))
  refine e_ret ⟨rfl, _, rfl, congrArg V.bool (fidx_any p l).symm⟩

def ltN (l : List Int) (x : Int) : Nat := l.countP fun y => decide (y < x)
theorem ltN_eq {l : List Int} {x : Int} {i : Nat} (hi : i ≤ l.length) (h1 : ∀ j y, j < i → l[j]? = some y → y < x) (h2 : ∀ j y, i ≤ j → l[j]? = some y → x ≤ y) : ltN l x = i := by
  unfold ltN
  conv => lhs; rw [← List.take_append_drop i l, List.countP_append]
  have e1 : (l.take i).countP (fun y => decide (y < x)) = (l.take i).length := List.countP_eq_length.2 fun y hy => by
    obtain ⟨j, hj, e⟩ := List.mem_take_iff_getElem.1 hy
    simpa using h1 j y (by omega) (by rw [← e]; exact List.getElem?_eq_getElem (by omega))
  have e2 : (l.drop i).countP (fun y => decide (y < x)) = 0 := List.countP_eq_zero.2 fun y hy => by
    obtain ⟨j, hj, e⟩ := List.mem_drop_iff_getElem.1 hy
    have := h2 (i + j) y (by omega) (by rw [← e]; exact List.getElem?_eq_getElem (by omega))
    simpa using this
  rw [e1, e2, List.length_take]
  omega
def c_slices_BinarySearch_int : Cmd :=
  (.seq
   (.ops [
   .op (some 4) none (.mov (.c (.int .i64 (0)))),
   .op (some 5) none (.mov (.c (.bool false)))])
   (.cut
   (.seq
   (.ops [
   .op (some 10) none (.mov (.t 0)),
   .op (some 11) none (.len false (.t 10)),
   .op (some 6) none (.mov (.t 11))])
   (.cut
   (.seq
   (.ops [
   .op (some 12) none (.mov (.t 6)),
   .op (some 7) none (.mov (.c (.int .i64 (0)))),
   .op (some 8) none (.mov (.t 12))])
   (.cut
   (.seq
   (.block 0
   (.loop
   (.seq
   (.seq
   (.ops [
   .op (some 13) none (.mov (.t 7)),
   .op (some 14) none (.mov (.t 8)),
   .op (some 15) none (.bin .lss false [] (.t 13) (.t 14))])
   (.cut
   (.cond (.t 15)
   .skip
   (.exit 0))))
   (.cut
   (.block 1
   (.seq
   (.ops [
   .op (some 16) none (.mov (.t 7)),
   .op (some 17) none (.mov (.t 8)),
   .op (some 18) none (.bin .add false [] (.t 16) (.t 17)),
   .op (some 19) none (.conv .u64 (.t 18)),
   .op (some 20) none (.bin .shr false [] (.t 19) (.c (.int .u64 (1)))),
   .op (some 21) none (.conv .i64 (.t 20)),
   .op (some 9) none (.mov (.t 21))])
   (.cut
   (.seq
   (.ops [
   .op (some 22) none (.mov (.t 0)),
   .op (some 23) none (.mov (.t 9)),
   .op (some 24) none (.iaddr 1 (.t 22) (.t 23)),
   .op (some 25) none (.load false 1 (.t 24)),
   .op (some 26) none (.mov (.t 1)),
   .op (some 27) none (.call .f (.c (.fn 62 [])) [.t 25, .t 26])])
   (.cut
   (.cond (.t 27)
   (.ops [
   .op (some 28) none (.mov (.t 9)),
   .op (some 29) none (.bin .add false [] (.t 28) (.c (.int .i64 (1)))),
   .op (some 7) none (.mov (.t 29))])
   (.ops [
   .op (some 30) none (.mov (.t 9)),
   .op (some 8) none (.mov (.t 30))])))))))))))
   (.cut
   (.seq
   (.ops [
   .op (some 31) none (.mov (.t 7)),
   .op (some 32) none (.mov (.t 7)),
   .op (some 33) none (.mov (.t 6)),
   .op (some 34) none (.bin .lss false [] (.t 32) (.t 33)),
   .op (some 35) none (.mov (.t 34)),
   .op (some 36) (some (35, true)) (.mov (.t 0)),
   .op (some 37) (some (35, true)) (.mov (.t 7)),
   .op (some 38) (some (35, true)) (.iaddr 1 (.t 36) (.t 37)),
   .op (some 39) (some (35, true)) (.load false 1 (.t 38)),
   .op (some 40) (some (35, true)) (.mov (.t 1)),
   .op (some 41) (some (35, true)) (.bin .eql false [.i] (.t 39) (.t 40)),
   .op (some 42) (some (35, true)) (.mov (.t 41)),
   .op (some 43) (some (42, false)) (.mov (.t 0)),
   .op (some 44) (some (42, false)) (.mov (.t 7)),
   .op (some 45) (some (42, false)) (.iaddr 1 (.t 43) (.t 44)),
   .op (some 46) (some (42, false)) (.load false 1 (.t 45)),
   .op (some 47) (some (42, false)) (.call .f (.c (.fn 63 [])) [.t 46]),
   .op (some 48) (some (42, false)) (.mov (.t 47)),
   .op (some 49) (some (48, true)) (.mov (.t 1)),
   .op (some 50) (some (48, true)) (.call .f (.c (.fn 63 [])) [.t 49]),
   .op (some 51) (some (42, false)) (.pick (.t 48) (.t 50) (.c (.bool false))),
   .op (some 52) (some (35, true)) (.pick (.t 42) (.c (.bool true)) (.t 51)),
   .op (some 53) none (.pick (.t 35) (.t 52) (.c (.bool false))),
   .op (some 4) none (.mov (.t 31)),
   .op (some 5) none (.mov (.t 53))])
   .ret)))))))))
def r_slices_BinarySearch_int : List RVar := [.tmp 4, .tmp 5]
def n_slices_BinarySearch_int : Nat := 54
theorem k_slices_BinarySearch_int : chkFn Go.Proofs.Try.prog 57 n_slices_BinarySearch_int r_slices_BinarySearch_int c_slices_BinarySearch_int = true := by kernel_rfl
theorem f_BinarySearch (l : List Int) (x : Int) (hl : l.length ≤ 140737488355328) (hs : SS l) : Fc Go.Proofs.Try.prog 57 [.sl .p (l.map i64V), .int .i64 x] (.tup [.int .i64 (ltN l x), .bool (decide (x ∈ l))]) := by
  refine Fn.step mixed k_slices_BinarySearch_int ?_
  repeat' (first | refine i_len rfl ?_ | refine i_s rfl ?_ | refine i_lenm rfl rfl rfl ?_ | refine c_seq ?_ | refine c_cut0 ?_ | refine c_ops ?_ | refine i_nil ?_ | refine e_seq ?_ | refine e_block ?_ | refine c_block ?_ | refine c_skip ?_ | refine c_ret ?_ | refine c_exit ?_ | refine e_exit rfl ?_ | refine i_s0 rfl ?_ | refine c_leaf ?_ | refine i_gt rfl ?_ | refine i_gf rfl ?_ | refine i_gd rfl ?_ | refine c_t rfl ?_ | refine c_f rfl ?_ | refine i_conv rfl (by simp only [InR, List.length_map]; omega) ?_ | refine i_add rfl rfl (by simp only [InR, List.length_map]; omega) ?_ | refine i_sub rfl rfl (by simp only [InR, List.length_map]; omega) ?_ | refine i_ixm rfl rfl (by assumption) ?_ | refine i_iai rfl rfl (by omega) (by assumption) rfl ?_ | refine i_iam rfl rfl (by assumption) rfl ?_ | refine i_tk rfl rfl (by omega) ?_ | refine i_stb rfl ?_ | refine i_alloc rfl ?_ | refine i_box rfl rfl ?_ | refine i_nv rfl ?_ | refine c_node ?_ ?_ | refine i_g rfl (fun h => ?_) (fun h => ?_) | refine c_cond rfl (fun h => ?_) (fun h => ?_))
  refine c_lp (ι := Nat × Nat) (fun p => [(0, .sl .p (l.map i64V)), (1, .int .i64 x), (6, .int .i64 l.length), (7, .int .i64 p.1), (8, .int .i64 p.2)]) (fun _ => [])
    (fun p => p.1 ≤ p.2 ∧ p.2 ≤ l.length ∧ (∀ j y, j < p.1 → l[j]? = some y → y < x) ∧ (∀ j y, p.2 ≤ j → l[j]? = some y → x ≤ y)) (fun p => p.2 - p.1) (0, l.length) ⟨Nat.zero_le _, Nat.le_refl _, fun j y h => by omega, fun j y h1 h2 => by have := get_lt h2; omega⟩ ⟨by repeat (first | exact trivial | refine ⟨rfl, ?_⟩), by repeat (first | exact trivial | refine ⟨rfl, ?_⟩), rfl⟩ fun p hi => ?_
  obtain ⟨i, j⟩ := p
  obtain ⟨h1, h2, h3, h4⟩ := hi
  simp only at h1 h2 h3 h4
  repeat (first | refine i_len rfl ?_ | refine i_s rfl ?_ | refine i_lenm rfl rfl rfl ?_ | refine c_seq ?_ | refine c_cut0 ?_ | refine c_ops ?_ | refine i_nil ?_ | refine e_seq ?_ | refine e_block ?_ | refine c_block ?_ | refine c_skip ?_ | refine c_ret ?_ | refine c_exit ?_ | refine e_exit rfl ?_ | refine i_s0 rfl ?_ | refine c_leaf ?_ | refine i_gt rfl ?_ | refine i_gf rfl ?_ | refine i_gd rfl ?_ | refine c_t rfl ?_ | refine c_f rfl ?_ | refine i_conv rfl (by simp only [InR, List.length_map]; omega) ?_ | refine i_add rfl rfl (by simp only [InR, List.length_map]; omega) ?_ | refine i_sub rfl rfl (by simp only [InR, List.length_map]; omega) ?_ | refine i_ixm rfl rfl (by assumption) ?_ | refine i_iai rfl rfl (by omega) (by assumption) rfl ?_ | refine i_iam rfl rfl (by assumption) rfl ?_ | refine i_tk rfl rfl (by omega) ?_ | refine i_stb rfl ?_ | refine i_alloc rfl ?_ | refine i_box rfl rfl ?_ | refine i_nv rfl ?_)
  refine c_cond rfl (fun h => ?_) (fun h => ?_)
  · have hlt : i < j := by simpa using h
    obtain ⟨y, hy⟩ := get_some (l := l) (k := (i + j) / 2) (by omega)
    clear h
    repeat (first | refine i_len rfl ?_ | refine i_s rfl ?_ | refine i_lenm rfl rfl rfl ?_ | refine c_seq ?_ | refine c_cut0 ?_ | refine c_ops ?_ | refine i_nil ?_ | refine e_seq ?_ | refine e_block ?_ | refine c_block ?_ | refine c_skip ?_ | refine c_ret ?_ | refine c_exit ?_ | refine e_exit rfl ?_ | refine i_s0 rfl ?_ | refine c_leaf ?_ | refine i_gt rfl ?_ | refine i_gf rfl ?_ | refine i_gd rfl ?_ | refine c_t rfl ?_ | refine c_f rfl ?_ | refine i_conv rfl (by simp only [InR, List.length_map]; omega) ?_ | refine i_add rfl rfl (by simp only [InR, List.length_map]; omega) ?_ | refine i_sub rfl rfl (by simp only [InR, List.length_map]; omega) ?_ | refine i_ixm rfl rfl (by assumption) ?_ | refine i_iai rfl rfl (by omega) (by assumption) rfl ?_ | refine i_iam rfl rfl (by assumption) rfl ?_ | refine i_tk rfl rfl (by omega) ?_ | refine i_stb rfl ?_ | refine i_alloc rfl ?_ | refine i_box rfl rfl ?_ | refine i_nv rfl ?_)
    refine i_shr (q := (((i + j) / 2 : Nat) : Int)) rfl rfl (by decide) ?_ ?_
    · show Int.fdiv ((i : Int) + (j : Int)) 2 = _
      rw [Int.fdiv_eq_ediv_of_nonneg _ (by decide)]
      omega
    repeat (first | refine i_len rfl ?_ | refine i_s rfl ?_ | refine i_lenm rfl rfl rfl ?_ | refine c_seq ?_ | refine c_cut0 ?_ | refine c_ops ?_ | refine i_nil ?_ | refine e_seq ?_ | refine e_block ?_ | refine c_block ?_ | refine c_skip ?_ | refine c_ret ?_ | refine c_exit ?_ | refine e_exit rfl ?_ | refine i_s0 rfl ?_ | refine c_leaf ?_ | refine i_gt rfl ?_ | refine i_gf rfl ?_ | refine i_gd rfl ?_ | refine c_t rfl ?_ | refine c_f rfl ?_ | refine i_conv rfl (by simp only [InR, List.length_map]; omega) ?_ | refine i_add rfl rfl (by simp only [InR, List.length_map]; omega) ?_ | refine i_sub rfl rfl (by simp only [InR, List.length_map]; omega) ?_ | refine i_ixm rfl rfl (by assumption) ?_ | refine i_iai rfl rfl (by omega) (by assumption) rfl ?_ | refine i_iam rfl rfl (by assumption) rfl ?_ | refine i_tk rfl rfl (by omega) ?_ | refine i_stb rfl ?_ | refine i_alloc rfl ?_ | refine i_box rfl rfl ?_ | refine i_nv rfl ?_ | refine i_f rfl rfl (f_cmp_Less_int _ _) rfl ?_)
    refine c_cond rfl (fun h => ?_) (fun h => ?_)
    · have hyx : y < x := by simpa using h
      repeat (first | refine i_len rfl ?_ | refine i_s rfl ?_ | refine i_lenm rfl rfl rfl ?_ | refine c_seq ?_ | refine c_cut0 ?_ | refine c_ops ?_ | refine i_nil ?_ | refine e_seq ?_ | refine e_block ?_ | refine c_block ?_ | refine c_skip ?_ | refine c_ret ?_ | refine c_exit ?_ | refine e_exit rfl ?_ | refine i_s0 rfl ?_ | refine c_leaf ?_ | refine i_gt rfl ?_ | refine i_gf rfl ?_ | refine i_gd rfl ?_ | refine c_t rfl ?_ | refine c_f rfl ?_ | refine i_conv rfl (by simp only [InR, List.length_map]; omega) ?_ | refine i_add rfl rfl (by simp only [InR, List.length_map]; omega) ?_ | refine i_sub rfl rfl (by simp only [InR, List.length_map]; omega) ?_ | refine i_ixm rfl rfl (by assumption) ?_ | refine i_iai rfl rfl (by omega) (by assumption) rfl ?_ | refine i_iam rfl rfl (by assumption) rfl ?_ | refine i_tk rfl rfl (by omega) ?_ | refine i_stb rfl ?_ | refine i_alloc rfl ?_ | refine i_box rfl rfl ?_ | refine i_nv rfl ?_)
      refine e_lp ((i + j) / 2 + 1, j) ⟨by simp only; omega, h2, fun k z hk hz => ?_, h4⟩ (by simp only; omega) ⟨⟨rfl, rfl, rfl, ?_, rfl, trivial⟩, trivial, rfl⟩
      · by_cases e : k = (i + j) / 2
        · subst e; rw [hy] at hz; cases hz; exact hyx
        · have := ss_idx hs hz hy (by simp only at hk; omega); omega
      · rfl
    · have hyx : ¬ y < x := by simpa using h
      repeat (first | refine i_len rfl ?_ | refine i_s rfl ?_ | refine i_lenm rfl rfl rfl ?_ | refine c_seq ?_ | refine c_cut0 ?_ | refine c_ops ?_ | refine i_nil ?_ | refine e_seq ?_ | refine e_block ?_ | refine c_block ?_ | refine c_skip ?_ | refine c_ret ?_ | refine c_exit ?_ | refine e_exit rfl ?_ | refine i_s0 rfl ?_ | refine c_leaf ?_ | refine i_gt rfl ?_ | refine i_gf rfl ?_ | refine i_gd rfl ?_ | refine c_t rfl ?_ | refine c_f rfl ?_ | refine i_conv rfl (by simp only [InR, List.length_map]; omega) ?_ | refine i_add rfl rfl (by simp only [InR, List.length_map]; omega) ?_ | refine i_sub rfl rfl (by simp only [InR, List.length_map]; omega) ?_ | refine i_ixm rfl rfl (by assumption) ?_ | refine i_iai rfl rfl (by omega) (by assumption) rfl ?_ | refine i_iam rfl rfl (by assumption) rfl ?_ | refine i_tk rfl rfl (by omega) ?_ | refine i_stb rfl ?_ | refine i_alloc rfl ?_ | refine i_box rfl rfl ?_ | refine i_nv rfl ?_)
      refine e_lp (i, (i + j) / 2) ⟨by simp only; omega, by simp only; omega, h3, fun k z hk hz => ?_⟩ (by simp only; omega) ⟨by repeat (first | exact trivial | refine ⟨rfl, ?_⟩), by repeat (first | exact trivial | refine ⟨rfl, ?_⟩), rfl⟩
      by_cases e : k = (i + j) / 2
      · subst e; rw [hy] at hz; cases hz; omega
      · have := ss_idx hs hy hz (by simp only at hk; omega); omega
  · have he : i = j := by have : ¬ i < j := by simpa using h
                          omega
    subst he
    have hn := ltN_eq h2 h3 h4
    clear h
    by_cases hil : i < l.length
    · obtain ⟨y, hy⟩ := get_some hil
      have hil' : (i : Int) < l.length := by omega
      by_cases e : y = x
      · have hm : x ∈ l := e ▸ mem_get hy
        repeat' (first | refine i_len rfl ?_ | refine i_s rfl ?_ | refine i_lenm rfl rfl rfl ?_ | refine c_seq ?_ | refine c_cut0 ?_ | refine c_ops ?_ | refine i_nil ?_ | refine e_seq ?_ | refine e_block ?_ | refine c_block ?_ | refine c_skip ?_ | refine c_ret ?_ | refine c_exit ?_ | refine e_exit rfl ?_ | refine i_s0 rfl ?_ | refine c_leaf ?_ | refine i_gt rfl ?_ | refine i_gf rfl ?_ | refine i_gd rfl ?_ | refine c_t rfl ?_ | refine c_f rfl ?_ | refine i_conv rfl (by simp only [InR, List.length_map]; omega) ?_ | refine i_add rfl rfl (by simp only [InR, List.length_map]; omega) ?_ | refine i_sub rfl rfl (by simp only [InR, List.length_map]; omega) ?_ | refine i_ixm rfl rfl (by assumption) ?_ | refine i_iai rfl rfl (by omega) (by assumption) rfl ?_ | refine i_iam rfl rfl (by assumption) rfl ?_ | refine i_tk rfl rfl (by omega) ?_ | refine i_stb rfl ?_ | refine i_alloc rfl ?_ | refine i_box rfl rfl ?_ | refine i_nv rfl ?_ | refine c_node ?_ ?_ | refine i_g rfl (fun h => ?_) (fun h => ?_) | refine c_cond rfl (fun h => ?_) (fun h => ?_) | refine i_f rfl rfl (f_slices_isNaN_int _) rfl ?_)
        all_goals first
          | (refine e_ret ⟨rfl, _, rfl, ?_⟩; rw [hn, decide_eq_true hm]; rfl)
          | (exfalso; simp at *; omega)
      · have hm : x ∉ l := fun hm => by
          obtain ⟨k, hk, e2⟩ := List.getElem_of_mem hm
          have hg : l[k]? = some x := by rw [← e2]; exact List.getElem?_eq_getElem hk
          by_cases hki : k < i
          · have := h3 k x hki hg; omega
          · by_cases hke : k = i
            · subst hke; rw [hy] at hg; cases hg; exact e rfl
            · have := ss_idx hs hy hg (by omega)
              have := h4 i y (Nat.le_refl _) hy
              omega
        repeat' (first | refine i_len rfl ?_ | refine i_s rfl ?_ | refine i_lenm rfl rfl rfl ?_ | refine c_seq ?_ | refine c_cut0 ?_ | refine c_ops ?_ | refine i_nil ?_ | refine e_seq ?_ | refine e_block ?_ | refine c_block ?_ | refine c_skip ?_ | refine c_ret ?_ | refine c_exit ?_ | refine e_exit rfl ?_ | refine i_s0 rfl ?_ | refine c_leaf ?_ | refine i_gt rfl ?_ | refine i_gf rfl ?_ | refine i_gd rfl ?_ | refine c_t rfl ?_ | refine c_f rfl ?_ | refine i_conv rfl (by simp only [InR, List.length_map]; omega) ?_ | refine i_add rfl rfl (by simp only [InR, List.length_map]; omega) ?_ | refine i_sub rfl rfl (by simp only [InR, List.length_map]; omega) ?_ | refine i_ixm rfl rfl (by assumption) ?_ | refine i_iai rfl rfl (by omega) (by assumption) rfl ?_ | refine i_iam rfl rfl (by assumption) rfl ?_ | refine i_tk rfl rfl (by omega) ?_ | refine i_stb rfl ?_ | refine i_alloc rfl ?_ | refine i_box rfl rfl ?_ | refine i_nv rfl ?_ | refine c_node ?_ ?_ | refine i_g rfl (fun h => ?_) (fun h => ?_) | refine c_cond rfl (fun h => ?_) (fun h => ?_) | refine i_f rfl rfl (f_slices_isNaN_int _) rfl ?_)
        all_goals first
          | (refine e_ret ⟨rfl, _, rfl, ?_⟩; rw [hn, decide_eq_false hm]; rfl)
          | (exfalso; clear hm h3 h4 hs hn; simp at *; omega)
          | (exfalso; clear hm h3 h4 hs hn; simp at *; done)
    · have hm : x ∉ l := fun hm => by
        obtain ⟨k, hk, e2⟩ := List.getElem_of_mem hm
        have := h3 k x (by omega) (by rw [← e2]; exact List.getElem?_eq_getElem hk)
        omega
      repeat' (first | refine i_len rfl ?_ | refine i_s rfl ?_ | refine i_lenm rfl rfl rfl ?_ | refine c_seq ?_ | refine c_cut0 ?_ | refine c_ops ?_ | refine i_nil ?_ | refine e_seq ?_ | refine e_block ?_ | refine c_block ?_ | refine c_skip ?_ | refine c_ret ?_ | refine c_exit ?_ | refine e_exit rfl ?_ | refine i_s0 rfl ?_ | refine c_leaf ?_ | refine i_gt rfl ?_ | refine i_gf rfl ?_ | refine i_gd rfl ?_ | refine c_t rfl ?_ | refine c_f rfl ?_ | refine i_conv rfl (by simp only [InR, List.length_map]; omega) ?_ | refine i_add rfl rfl (by simp only [InR, List.length_map]; omega) ?_ | refine i_sub rfl rfl (by simp only [InR, List.length_map]; omega) ?_ | refine i_ixm rfl rfl (by assumption) ?_ | refine i_iai rfl rfl (by omega) (by assumption) rfl ?_ | refine i_iam rfl rfl (by assumption) rfl ?_ | refine i_tk rfl rfl (by omega) ?_ | refine i_stb rfl ?_ | refine i_alloc rfl ?_ | refine i_box rfl rfl ?_ | refine i_nv rfl ?_ | refine c_node ?_ ?_ | refine i_g rfl (fun h => ?_) (fun h => ?_) | refine c_cond rfl (fun h => ?_) (fun h => ?_) | refine i_f rfl rfl (f_slices_isNaN_int _) rfl ?_)
      all_goals first
        | (refine e_ret ⟨rfl, _, rfl, ?_⟩; rw [hn, decide_eq_false hm]; rfl)
        | (exfalso; clear hm h3 h4 hs hn; simp at *; omega)
def c_strips_Meets_1 : Cmd :=
  (.seq
   (.ops [
   .op (some 3) none (.mov (.c (.bool false)))])
   (.cut
   (.seq
   (.ops [
   .op (some 7) none (.load false 1 (.t 1)),
   .op (some 8) none (.mov (.t 0)),
   .op (some 9) none (.call .f (.c (.fn 57 [])) [.t 7, .t 8]),
   .op (some 6) none (.mov (.t 9)),
   .op (some 10) none (.extract (.t 6) 0),
   .op (some 11) none (.extract (.t 6) 1),
   .op (some 4) none (.mov (.t 10)),
   .op (some 5) none (.mov (.t 11))])
   (.cut
   (.seq
   (.ops [
   .op (some 12) none (.mov (.t 5)),
   .op (some 3) none (.mov (.t 12))])
   .ret)))))
def r_strips_Meets_1 : List RVar := [.tmp 3]
def n_strips_Meets_1 : Nat := 13
theorem k_strips_Meets_1 : chkFn Go.Proofs.Try.prog 61 n_strips_Meets_1 r_strips_Meets_1 c_strips_Meets_1 = true := by kernel_rfl
theorem f_strips_Meets_1 (b : List Int) (hl : b.length ≤ 140737488355328) (hs : SS b) (x : Int) : Fc Go.Proofs.Try.prog 61 [i64V x, .cptr .p (.sl .p (b.map i64V)) 0] (.bool (decide (x ∈ b))) := by
  refine Fn.step mixed k_strips_Meets_1 ?_
  repeat' (first | refine i_len rfl ?_ | refine i_s rfl ?_ | refine i_lenm rfl rfl rfl ?_ | refine c_seq ?_ | refine c_cut0 ?_ | refine c_ops ?_ | refine i_nil ?_ | refine e_seq ?_ | refine e_block ?_ | refine c_block ?_ | refine c_skip ?_ | refine c_ret ?_ | refine c_exit ?_ | refine e_exit rfl ?_ | refine i_s0 rfl ?_ | refine c_leaf ?_ | refine i_gt rfl ?_ | refine i_gf rfl ?_ | refine i_gd rfl ?_ | refine c_t rfl ?_ | refine c_f rfl ?_ | refine i_conv rfl (by simp only [InR, List.length_map]; omega) ?_ | refine i_add rfl rfl (by simp only [InR, List.length_map]; omega) ?_ | refine i_sub rfl rfl (by simp only [InR, List.length_map]; omega) ?_ | refine i_ixm rfl rfl (by assumption) ?_ | refine i_iai rfl rfl (by omega) (by assumption) rfl ?_ | refine i_iam rfl rfl (by assumption) rfl ?_ | refine i_tk rfl rfl (by omega) ?_ | refine i_stb rfl ?_ | refine i_alloc rfl ?_ | refine i_box rfl rfl ?_ | refine i_nv rfl ?_ | refine c_node ?_ ?_ | refine i_g rfl (fun h => ?_) (fun h => ?_) | refine c_cond rfl (fun h => ?_) (fun h => ?_) | refine i_f rfl rfl (f_BinarySearch b x hl hs) rfl ?_)
  exact e_ret ⟨rfl, _, rfl, rfl⟩
def c_strips_Meets : Cmd :=
  (.seq
   (.ops [
   .op (some 3) none (.box 3584193 1 (.t 1)),
   .op (some 4) none (.mov (.c (.bool false)))])
   (.cut
   (.seq
   (.ops [
   .op (some 5) none (.mov (.t 0)),
   .op (some 6) none (.mkfn 61 [.t 3]),
   .op (some 7) none (.call .f (.c (.fn 60 [])) [.t 5, .t 6]),
   .op (some 4) none (.mov (.t 7))])
   .ret)))
def r_strips_Meets : List RVar := [.tmp 4]
def n_strips_Meets : Nat := 8
theorem k_strips_Meets : chkFn Go.Proofs.Try.prog 56 n_strips_Meets r_strips_Meets c_strips_Meets = true := by kernel_rfl
theorem f_strips_Meets (a b : List Int) (hl : a.length ≤ 140737488355328) (hlb : b.length ≤ 140737488355328) (hs : SS b) : Fc Go.Proofs.Try.prog 56 [.sl .p (a.map i64V), .sl .p (b.map i64V)] (.bool (meetB a b)) := by
  have hC := f_ContainsFunc_int a (fun x => decide (x ∈ b)) 61 [.cptr .p (.sl .p (b.map i64V)) 0] hl (fun _ _ => rfl) rfl (fun x _ => f_strips_Meets_1 b hlb hs x)
  refine Fn.step mixed k_strips_Meets ?_
  repeat' (first | refine i_len rfl ?_ | refine i_s rfl ?_ | refine i_lenm rfl rfl rfl ?_ | refine c_seq ?_ | refine c_cut0 ?_ | refine c_ops ?_ | refine i_nil ?_ | refine e_seq ?_ | refine e_block ?_ | refine c_block ?_ | refine c_skip ?_ | refine c_ret ?_ | refine c_exit ?_ | refine e_exit rfl ?_ | refine i_s0 rfl ?_ | refine c_leaf ?_ | refine i_gt rfl ?_ | refine i_gf rfl ?_ | refine i_gd rfl ?_ | refine c_t rfl ?_ | refine c_f rfl ?_ | refine i_conv rfl (by simp only [InR, List.length_map]; omega) ?_ | refine i_add rfl rfl (by simp only [InR, List.length_map]; omega) ?_ | refine i_sub rfl rfl (by simp only [InR, List.length_map]; omega) ?_ | refine i_ixm rfl rfl (by assumption) ?_ | refine i_iai rfl rfl (by omega) (by assumption) rfl ?_ | refine i_iam rfl rfl (by assumption) rfl ?_ | refine i_tk rfl rfl (by omega) ?_ | refine i_stb rfl ?_ | refine i_alloc rfl ?_ | refine i_box rfl rfl ?_ | refine i_nv rfl ?_ | refine c_node ?_ ?_ | refine i_g rfl (fun h => ?_) (fun h => ?_) | refine c_cond rfl (fun h => ?_) (fun h => ?_) | refine i_f rfl rfl (hC) rfl ?_)
  exact e_ret ⟨rfl, _, rfl, rfl⟩
end Hm
end

section
/- Contracts: faults of tasks, states and plans. -/
namespace Hm
open Go
set_option maxRecDepth 100000
set_option maxHeartbeats 1000000
set_option linter.unusedSimpArgs false
set_option linter.unusedVariables false
def c_R1_IsSet : Cmd :=
  (.seq
   (.ops [
   .op (some 4) none (.mov (.c (.bool false)))])
   (.cut
   (.seq
   (.seq
   (.ops [
   .op (some 5) none (.mov (.c (.int .i64 (0))))])
   (.cut
   (.block 0
   (.loop
   (.seq
   (.seq
   (.ops [
   .op (some 6) none (.mov (.t 5)),
   .op (some 7) none (.mov (.t 0)),
   .op (some 8) none (.len false (.t 7)),
   .op (some 9) none (.bin .lss false [] (.t 6) (.t 8))])
   (.cut
   (.cond (.t 9)
   .skip
   (.exit 0))))
   (.cut
   (.seq
   (.block 1
   (.seq
   (.ops [
   .op (some 12) none (.mov (.t 0)),
   .op (some 13) none (.mov (.t 5)),
   .op (some 14) none (.iaddr 1 (.t 12) (.t 13)),
   .op (some 15) none (.load false 1 (.t 14)),
   .op (some 16) none (.mov (.t 1)),
   .op (some 17) none (.bin .sub false [] (.t 16) (.c (.int .i64 (1)))),
   .op (some 18) none (.call .f (.c (.fn 19 [])) [.t 15, .c (.int .i64 (0)), .t 17]),
   .op (some 19) none (.not (.t 18)),
   .op (some 20) none (.mov (.t 19)),
   .op (some 21) (some (20, false)) (.mov (.t 5)),
   .op (some 22) (some (20, false)) (.bin .gtr false [] (.t 21) (.c (.int .i64 (0)))),
   .op (some 23) (some (20, false)) (.mov (.t 22)),
   .op (some 24) (some (23, true)) (.mov (.t 0)),
   .op (some 25) (some (23, true)) (.mov (.t 5)),
   .op (some 26) (some (23, true)) (.iaddr 1 (.t 24) (.t 25)),
   .op (some 27) (some (23, true)) (.load false 1 (.t 26)),
   .op (some 28) (some (23, true)) (.mov (.t 0)),
   .op (some 29) (some (23, true)) (.mov (.t 5)),
   .op (some 30) (some (23, true)) (.bin .sub false [] (.t 29) (.c (.int .i64 (1)))),
   .op (some 31) (some (23, true)) (.iaddr 1 (.t 28) (.t 30)),
   .op (some 32) (some (23, true)) (.load false 1 (.t 31)),
   .op (some 33) (some (23, true)) (.bin .leq false [] (.t 27) (.t 32)),
   .op (some 34) (some (20, false)) (.pick (.t 23) (.t 33) (.c (.bool false))),
   .op (some 35) none (.pick (.t 20) (.c (.bool true)) (.t 34))])
   (.cut
   (.cond (.t 35)
   (.seq
   (.ops [
   .op (some 4) none (.mov (.c (.bool false)))])
   .ret)
   .skip))))
   (.cut
   (.ops [
   .op (some 10) none (.mov (.t 5)),
   .op (some 11) none (.bin .add false [] (.t 10) (.c (.int .i64 (1)))),
   .op (some 5) none (.mov (.t 11))])))))))))
   (.cut
   (.seq
   (.ops [
   .op (some 4) none (.mov (.c (.bool true)))])
   .ret)))))
def r_R1_IsSet : List RVar := [.tmp 4]
def n_R1_IsSet : Nat := 36
theorem k_R1_IsSet : chkFn Go.Proofs.Try.prog 42 n_R1_IsSet r_R1_IsSet c_R1_IsSet = true := by kernel_rfl
theorem f_R1_IsSet (l : List Int) (n : Int) (hl : l.length ≤ 140737488355328) (h0 : 0 ≤ n) (h1 : n ≤ 140737488355328) : Fc Go.Proofs.Try.prog 42 [.sl .p (l.map i64V), .int .i64 n] (.bool (isSetB n l)) := by
  refine Fn.step mixed k_R1_IsSet ?_
  repeat (first | refine i_len rfl ?_ | refine i_s rfl ?_ | refine i_lenm rfl rfl rfl ?_ | refine c_seq ?_ | refine c_cut0 ?_ | refine c_ops ?_ | refine i_nil ?_ | refine e_seq ?_ | refine e_block ?_ | refine c_block ?_ | refine c_skip ?_ | refine c_ret ?_ | refine c_exit ?_ | refine e_exit rfl ?_ | refine i_s0 rfl ?_ | refine c_leaf ?_ | refine i_gt rfl ?_ | refine i_gf rfl ?_ | refine i_gd rfl ?_ | refine c_t rfl ?_ | refine c_f rfl ?_ | refine i_conv rfl (by simp only [InR, List.length_map]; omega) ?_ | refine i_add rfl rfl (by simp only [InR, List.length_map]; omega) ?_ | refine i_sub rfl rfl (by simp only [InR, List.length_map]; omega) ?_ | refine i_ixm rfl rfl (by assumption) ?_ | refine i_iai rfl rfl (by omega) (by assumption) rfl ?_ | refine i_iam rfl rfl (by assumption) rfl ?_ | refine i_tk rfl rfl (by omega) ?_ | refine i_stb rfl ?_ | refine i_alloc rfl ?_ | refine i_box rfl rfl ?_ | refine i_nv rfl ?_)
  refine c_for l.length (fun k => [(0, .sl .p (l.map i64V)), (1, .int .i64 n), (5, .int .i64 k)]) (fun _ => []) (fun k => ∀ j, j < k → setAt n l j = true) all_zero ⟨by repeat (first | exact trivial | refine ⟨rfl, ?_⟩), by repeat (first | exact trivial | refine ⟨rfl, ?_⟩), rfl⟩ fun k hk hi => ?_
  repeat (first | refine i_len rfl ?_ | refine i_s rfl ?_ | refine i_lenm rfl rfl rfl ?_ | refine c_seq ?_ | refine c_cut0 ?_ | refine c_ops ?_ | refine i_nil ?_ | refine e_seq ?_ | refine e_block ?_ | refine c_block ?_ | refine c_skip ?_ | refine c_ret ?_ | refine c_exit ?_ | refine e_exit rfl ?_ | refine i_s0 rfl ?_ | refine c_leaf ?_ | refine i_gt rfl ?_ | refine i_gf rfl ?_ | refine i_gd rfl ?_ | refine c_t rfl ?_ | refine c_f rfl ?_ | refine i_conv rfl (by simp only [InR, List.length_map]; omega) ?_ | refine i_add rfl rfl (by simp only [InR, List.length_map]; omega) ?_ | refine i_sub rfl rfl (by simp only [InR, List.length_map]; omega) ?_ | refine i_ixm rfl rfl (by assumption) ?_ | refine i_iai rfl rfl (by omega) (by assumption) rfl ?_ | refine i_iam rfl rfl (by assumption) rfl ?_ | refine i_tk rfl rfl (by omega) ?_ | refine i_stb rfl ?_ | refine i_alloc rfl ?_ | refine i_box rfl rfl ?_ | refine i_nv rfl ?_)
  refine c_cond rfl (fun h => ?_) (fun h => ?_)
  · have hlt : k < l.length := by simpa using h
    obtain ⟨x, hx⟩ := get_some hlt
    clear h
    by_cases hk0 : k = 0
    · have hat : setAt n l k = (decide (0 ≤ x) && decide (x < n)) := by subst hk0; simp [setAt, hx]
      subst hk0
      repeat' (first | refine i_len rfl ?_ | refine i_s rfl ?_ | refine i_lenm rfl rfl rfl ?_ | refine c_seq ?_ | refine c_cut0 ?_ | refine c_ops ?_ | refine i_nil ?_ | refine e_seq ?_ | refine e_block ?_ | refine c_block ?_ | refine c_skip ?_ | refine c_ret ?_ | refine c_exit ?_ | refine e_exit rfl ?_ | refine i_s0 rfl ?_ | refine c_leaf ?_ | refine i_gt rfl ?_ | refine i_gf rfl ?_ | refine i_gd rfl ?_ | refine c_t rfl ?_ | refine c_f rfl ?_ | refine i_conv rfl (by simp only [InR, List.length_map]; omega) ?_ | refine i_add rfl rfl (by simp only [InR, List.length_map]; omega) ?_ | refine i_sub rfl rfl (by simp only [InR, List.length_map]; omega) ?_ | refine i_ixm rfl rfl (by assumption) ?_ | refine i_iai rfl rfl (by omega) (by assumption) rfl ?_ | refine i_iam rfl rfl (by assumption) rfl ?_ | refine i_tk rfl rfl (by omega) ?_ | refine i_stb rfl ?_ | refine i_alloc rfl ?_ | refine i_box rfl rfl ?_ | refine i_nv rfl ?_ | refine c_node ?_ ?_ | refine i_g rfl (fun h => ?_) (fun h => ?_) | refine c_cond rfl (fun h => ?_) (fun h => ?_) | refine i_f rfl rfl (f_R1_In _ _ _) rfl ?_)
      all_goals first
        | (refine e_for hlt (all_succ hi (by rw [hat]; clear hi hat hx; simp at *; try omega)) ⟨by repeat (first | exact trivial | refine ⟨rfl, ?_⟩), by repeat (first | exact trivial | refine ⟨rfl, ?_⟩), rfl⟩)
        | (refine e_ret ⟨rfl, _, rfl, congrArg V.bool ?_⟩
           have : setAt n l 0 = false := by rw [hat]; clear hi hat hx; simp at *; try omega
           simp [isSetB, allN_bad hlt this])
        | (exfalso; clear hi hat; simp at *; omega)
    · obtain ⟨y, hy⟩ := get_some (l := l) (k := k - 1) (by omega)
      have hat : setAt n l k = (decide (0 ≤ x) && decide (x < n) && decide (y < x)) := by simp [setAt, hx, hk0, hy]
      have h1' : 0 < k := by omega
      have hy' : l[((k : Int) - 1).toNat]? = some y := by rw [show ((k : Int) - 1).toNat = k - 1 from by omega]; exact hy
      repeat' (first | refine i_len rfl ?_ | refine i_s rfl ?_ | refine i_lenm rfl rfl rfl ?_ | refine c_seq ?_ | refine c_cut0 ?_ | refine c_ops ?_ | refine i_nil ?_ | refine e_seq ?_ | refine e_block ?_ | refine c_block ?_ | refine c_skip ?_ | refine c_ret ?_ | refine c_exit ?_ | refine e_exit rfl ?_ | refine i_s0 rfl ?_ | refine c_leaf ?_ | refine i_gt rfl ?_ | refine i_gf rfl ?_ | refine i_gd rfl ?_ | refine c_t rfl ?_ | refine c_f rfl ?_ | refine i_conv rfl (by simp only [InR, List.length_map]; omega) ?_ | refine i_add rfl rfl (by simp only [InR, List.length_map]; omega) ?_ | refine i_sub rfl rfl (by simp only [InR, List.length_map]; omega) ?_ | refine i_ixm rfl rfl (by assumption) ?_ | refine i_iai rfl rfl (by omega) (by assumption) rfl ?_ | refine i_iam rfl rfl (by assumption) rfl ?_ | refine i_tk rfl rfl (by omega) ?_ | refine i_stb rfl ?_ | refine i_alloc rfl ?_ | refine i_box rfl rfl ?_ | refine i_nv rfl ?_ | refine c_node ?_ ?_ | refine i_g rfl (fun h => ?_) (fun h => ?_) | refine c_cond rfl (fun h => ?_) (fun h => ?_) | refine i_f rfl rfl (f_R1_In _ _ _) rfl ?_)
      all_goals first
        | (refine e_for hlt (all_succ hi (by rw [hat]; clear hi hat hx hy hy'; simp at *; try omega)) ⟨by repeat (first | exact trivial | refine ⟨rfl, ?_⟩), by repeat (first | exact trivial | refine ⟨rfl, ?_⟩), rfl⟩)
        | (refine e_ret ⟨rfl, _, rfl, congrArg V.bool ?_⟩
           have : setAt n l k = false := by rw [hat]; clear hi hat hx hy hy'; simp at *; try omega
           simp [isSetB, allN_bad hlt this])
        | (exfalso; clear hi hat hy hy'; simp at *; omega)
  · have hge : ¬ k < l.length := by simpa using h
    repeat' (first | refine i_len rfl ?_ | refine i_s rfl ?_ | refine i_lenm rfl rfl rfl ?_ | refine c_seq ?_ | refine c_cut0 ?_ | refine c_ops ?_ | refine i_nil ?_ | refine e_seq ?_ | refine e_block ?_ | refine c_block ?_ | refine c_skip ?_ | refine c_ret ?_ | refine c_exit ?_ | refine e_exit rfl ?_ | refine i_s0 rfl ?_ | refine c_leaf ?_ | refine i_gt rfl ?_ | refine i_gf rfl ?_ | refine i_gd rfl ?_ | refine c_t rfl ?_ | refine c_f rfl ?_ | refine i_conv rfl (by simp only [InR, List.length_map]; omega) ?_ | refine i_add rfl rfl (by simp only [InR, List.length_map]; omega) ?_ | refine i_sub rfl rfl (by simp only [InR, List.length_map]; omega) ?_ | refine i_ixm rfl rfl (by assumption) ?_ | refine i_iai rfl rfl (by omega) (by assumption) rfl ?_ | refine i_iam rfl rfl (by assumption) rfl ?_ | refine i_tk rfl rfl (by omega) ?_ | refine i_stb rfl ?_ | refine i_alloc rfl ?_ | refine i_box rfl rfl ?_ | refine i_nv rfl ?_ | refine c_node ?_ ?_ | refine i_g rfl (fun h => ?_) (fun h => ?_) | refine c_cond rfl (fun h => ?_) (fun h => ?_))
    exact e_ret ⟨rfl, _, rfl, congrArg V.bool (by simp [isSetB]; exact allN_ok fun j hj => hi j (by omega))⟩
def c_R1_Disjoint : Cmd :=
  (.seq
   (.ops [
   .op (some 4) none (.mov (.c (.bool false)))])
   (.cut
   (.seq
   (.seq
   (.ops [
   .op (some 5) none (.mov (.c (.int .i64 (0))))])
   (.cut
   (.block 0
   (.loop
   (.seq
   (.seq
   (.ops [
   .op (some 6) none (.mov (.t 5)),
   .op (some 7) none (.mov (.t 0)),
   .op (some 8) none (.len false (.t 7)),
   .op (some 9) none (.bin .lss false [] (.t 6) (.t 8))])
   (.cut
   (.cond (.t 9)
   .skip
   (.exit 0))))
   (.cut
   (.seq
   (.block 1
   (.seq
   (.ops [
   .op (some 12) none (.mov (.t 1)),
   .op (some 13) none (.mov (.t 0)),
   .op (some 14) none (.mov (.t 5)),
   .op (some 15) none (.iaddr 1 (.t 13) (.t 14)),
   .op (some 16) none (.load false 1 (.t 15)),
   .op (some 17) none (.call .f (.c (.fn 52 [])) [.t 12, .t 16])])
   (.cut
   (.cond (.t 17)
   (.seq
   (.ops [
   .op (some 4) none (.mov (.c (.bool false)))])
   .ret)
   .skip))))
   (.cut
   (.ops [
   .op (some 10) none (.mov (.t 5)),
   .op (some 11) none (.bin .add false [] (.t 10) (.c (.int .i64 (1)))),
   .op (some 5) none (.mov (.t 11))])))))))))
   (.cut
   (.seq
   (.ops [
   .op (some 4) none (.mov (.c (.bool true)))])
   .ret)))))
def r_R1_Disjoint : List RVar := [.tmp 4]
def n_R1_Disjoint : Nat := 18
theorem k_R1_Disjoint : chkFn Go.Proofs.Try.prog 43 n_R1_Disjoint r_R1_Disjoint c_R1_Disjoint = true := by kernel_rfl
theorem f_R1_Disjoint (xs ys : List Int) (hl : xs.length ≤ 140737488355328) (hl2 : ys.length ≤ 140737488355328) : Fc Go.Proofs.Try.prog 43 [.sl .p (xs.map i64V), .sl .p (ys.map i64V)] (.bool (disjB xs ys)) := by
  refine Fn.step mixed k_R1_Disjoint ?_
  repeat' (first | refine i_len rfl ?_ | refine i_s rfl ?_ | refine i_lenm rfl rfl rfl ?_ | refine c_seq ?_ | refine c_cut0 ?_ | refine c_ops ?_ | refine i_nil ?_ | refine e_seq ?_ | refine e_block ?_ | refine c_block ?_ | refine c_skip ?_ | refine c_ret ?_ | refine c_exit ?_ | refine e_exit rfl ?_ | refine i_s0 rfl ?_ | refine c_leaf ?_ | refine i_gt rfl ?_ | refine i_gf rfl ?_ | refine i_gd rfl ?_ | refine c_t rfl ?_ | refine c_f rfl ?_ | refine i_conv rfl (by simp only [InR, List.length_map]; omega) ?_ | refine i_add rfl rfl (by simp only [InR, List.length_map]; omega) ?_ | refine i_sub rfl rfl (by simp only [InR, List.length_map]; omega) ?_ | refine i_ixm rfl rfl (by assumption) ?_ | refine i_iai rfl rfl (by omega) (by assumption) rfl ?_ | refine i_iam rfl rfl (by assumption) rfl ?_ | refine i_tk rfl rfl (by omega) ?_ | refine i_stb rfl ?_ | refine i_alloc rfl ?_ | refine i_box rfl rfl ?_ | refine i_nv rfl ?_ | refine c_node ?_ ?_ | refine i_g rfl (fun h => ?_) (fun h => ?_) | refine c_cond rfl (fun h => ?_) (fun h => ?_))
  refine c_for xs.length (fun k => [(0, .sl .p (xs.map i64V)), (1, .sl .p (ys.map i64V)), (5, .int .i64 k)]) (fun _ => []) (fun k => ∀ j, j < k → ∀ c, xs[j]? = some c → c ∉ ys) all_zero ⟨by repeat (first | exact trivial | refine ⟨rfl, ?_⟩), by repeat (first | exact trivial | refine ⟨rfl, ?_⟩), rfl⟩ fun k hk hi => ?_
  repeat (first | refine i_len rfl ?_ | refine i_s rfl ?_ | refine i_lenm rfl rfl rfl ?_ | refine c_seq ?_ | refine c_cut0 ?_ | refine c_ops ?_ | refine i_nil ?_ | refine e_seq ?_ | refine e_block ?_ | refine c_block ?_ | refine c_skip ?_ | refine c_ret ?_ | refine c_exit ?_ | refine e_exit rfl ?_ | refine i_s0 rfl ?_ | refine c_leaf ?_ | refine i_gt rfl ?_ | refine i_gf rfl ?_ | refine i_gd rfl ?_ | refine c_t rfl ?_ | refine c_f rfl ?_ | refine i_conv rfl (by simp only [InR, List.length_map]; omega) ?_ | refine i_add rfl rfl (by simp only [InR, List.length_map]; omega) ?_ | refine i_sub rfl rfl (by simp only [InR, List.length_map]; omega) ?_ | refine i_ixm rfl rfl (by assumption) ?_ | refine i_iai rfl rfl (by omega) (by assumption) rfl ?_ | refine i_iam rfl rfl (by assumption) rfl ?_ | refine i_tk rfl rfl (by omega) ?_ | refine i_stb rfl ?_ | refine i_alloc rfl ?_ | refine i_box rfl rfl ?_ | refine i_nv rfl ?_)
  refine c_cond rfl (fun h => ?_) (fun h => ?_)
  · have hlt : k < xs.length := by simpa using h
    obtain ⟨c, hc⟩ := get_some hlt
    clear h
    repeat' (first | refine i_len rfl ?_ | refine i_s rfl ?_ | refine i_lenm rfl rfl rfl ?_ | refine c_seq ?_ | refine c_cut0 ?_ | refine c_ops ?_ | refine i_nil ?_ | refine e_seq ?_ | refine e_block ?_ | refine c_block ?_ | refine c_skip ?_ | refine c_ret ?_ | refine c_exit ?_ | refine e_exit rfl ?_ | refine i_s0 rfl ?_ | refine c_leaf ?_ | refine i_gt rfl ?_ | refine i_gf rfl ?_ | refine i_gd rfl ?_ | refine c_t rfl ?_ | refine c_f rfl ?_ | refine i_conv rfl (by simp only [InR, List.length_map]; omega) ?_ | refine i_add rfl rfl (by simp only [InR, List.length_map]; omega) ?_ | refine i_sub rfl rfl (by simp only [InR, List.length_map]; omega) ?_ | refine i_ixm rfl rfl (by assumption) ?_ | refine i_iai rfl rfl (by omega) (by assumption) rfl ?_ | refine i_iam rfl rfl (by assumption) rfl ?_ | refine i_tk rfl rfl (by omega) ?_ | refine i_stb rfl ?_ | refine i_alloc rfl ?_ | refine i_box rfl rfl ?_ | refine i_nv rfl ?_ | refine c_node ?_ ?_ | refine i_g rfl (fun h => ?_) (fun h => ?_) | refine c_cond rfl (fun h => ?_) (fun h => ?_) | refine i_f rfl rfl (f_R1_Has ys c hl2) rfl ?_)
    · refine e_ret ⟨rfl, _, rfl, congrArg V.bool ?_⟩
      unfold disjB
      rw [List.all_eq_false]
      exact ⟨c, mem_get hc, by simpa using h⟩
    · exact e_for hlt (all_succ hi fun c' hc' => by rw [hc] at hc'; cases hc'; simpa using h) ⟨by repeat (first | exact trivial | refine ⟨rfl, ?_⟩), by repeat (first | exact trivial | refine ⟨rfl, ?_⟩), rfl⟩
  · have hge : ¬ k < xs.length := by simpa using h
    repeat' (first | refine i_len rfl ?_ | refine i_s rfl ?_ | refine i_lenm rfl rfl rfl ?_ | refine c_seq ?_ | refine c_cut0 ?_ | refine c_ops ?_ | refine i_nil ?_ | refine e_seq ?_ | refine e_block ?_ | refine c_block ?_ | refine c_skip ?_ | refine c_ret ?_ | refine c_exit ?_ | refine e_exit rfl ?_ | refine i_s0 rfl ?_ | refine c_leaf ?_ | refine i_gt rfl ?_ | refine i_gf rfl ?_ | refine i_gd rfl ?_ | refine c_t rfl ?_ | refine c_f rfl ?_ | refine i_conv rfl (by simp only [InR, List.length_map]; omega) ?_ | refine i_add rfl rfl (by simp only [InR, List.length_map]; omega) ?_ | refine i_sub rfl rfl (by simp only [InR, List.length_map]; omega) ?_ | refine i_ixm rfl rfl (by assumption) ?_ | refine i_iai rfl rfl (by omega) (by assumption) rfl ?_ | refine i_iam rfl rfl (by assumption) rfl ?_ | refine i_tk rfl rfl (by omega) ?_ | refine i_stb rfl ?_ | refine i_alloc rfl ?_ | refine i_box rfl rfl ?_ | refine i_nv rfl ?_ | refine c_node ?_ ?_ | refine i_g rfl (fun h => ?_) (fun h => ?_) | refine c_cond rfl (fun h => ?_) (fun h => ?_))
    refine e_ret ⟨rfl, _, rfl, congrArg V.bool ?_⟩
    unfold disjB
    rw [List.all_eq_true]
    intro x hx
    obtain ⟨i, hi', e⟩ := List.getElem_of_mem hx
    exact decide_eq_true (hi i (by omega) x (by rw [← e]; exact List.getElem?_eq_getElem hi'))
def opCode (n : Int) (o : SOp) : Int := if isSetB n o.pre = false ∨ isSetB n o.add = false ∨ isSetB n o.del = false ∨ disjB o.add o.del = false then 5 else if o.cost < 0 ∨ o.cost > 100 then 3 else 0
theorem sopBad_eq {n : Int} {ops : List SOp} {i : Nat} {o : SOp} (h : ops[i]? = some o) : sopBad n ops i = if opCode n o = 0 then none else some ⟨opCode n o, i⟩ := by
  unfold sopBad opCode
  rw [h]
  simp only
  repeat' split
  all_goals first | rfl | omega | contradiction
def SoOk (o : SOp) : Prop := o.pre.length ≤ 140737488355328 ∧ o.add.length ≤ 140737488355328 ∧ o.del.length ≤ 140737488355328
theorem opc5 {n : Int} {o : SOp} (h : isSetB n o.pre = false ∨ isSetB n o.add = false ∨ isSetB n o.del = false ∨ disjB o.add o.del = false) : opCode n o = 5 := if_pos h
theorem opc {n : Int} {o : SOp} (h1 : isSetB n o.pre = true) (h2 : isSetB n o.add = true) (h3 : isSetB n o.del = true) (h4 : disjB o.add o.del = true) : opCode n o = if o.cost < 0 ∨ o.cost > 100 then 3 else 0 := if_neg (by simp [h1, h2, h3, h4])
def c_strips_operator : Cmd :=
  (.seq
   (.ops [
   .op (some 2) none (.box 3392132 4 (.t 0)),
   .op (some 4) none (.mov (.c (.int .i64 (0))))])
   (.cut
   (.seq
   (.block 0
   (.seq
   (.ops [
   .op (some 6) none (.faddr 0 (.t 2)),
   .op (some 7) none (.load false 1 (.t 6)),
   .op (some 8) none (.mov (.t 1)),
   .op (some 9) none (.call .f (.c (.fn 51 [])) [.t 7, .t 8]),
   .op (some 10) none (.not (.t 9)),
   .op (some 11) none (.mov (.t 10)),
   .op (some 12) (some (11, false)) (.faddr 1 (.t 2)),
   .op (some 13) (some (11, false)) (.load false 1 (.t 12)),
   .op (some 14) (some (11, false)) (.mov (.t 1)),
   .op (some 15) (some (11, false)) (.call .f (.c (.fn 51 [])) [.t 13, .t 14]),
   .op (some 16) (some (11, false)) (.not (.t 15)),
   .op (some 17) none (.pick (.t 11) (.c (.bool true)) (.t 16)),
   .op (some 18) none (.mov (.t 17)),
   .op (some 19) (some (18, false)) (.faddr 2 (.t 2)),
   .op (some 20) (some (18, false)) (.load false 1 (.t 19)),
   .op (some 21) (some (18, false)) (.mov (.t 1)),
   .op (some 22) (some (18, false)) (.call .f (.c (.fn 51 [])) [.t 20, .t 21]),
   .op (some 23) (some (18, false)) (.not (.t 22)),
   .op (some 24) none (.pick (.t 18) (.c (.bool true)) (.t 23)),
   .op (some 25) none (.mov (.t 24)),
   .op (some 26) (some (25, false)) (.faddr 1 (.t 2)),
   .op (some 27) (some (25, false)) (.load false 1 (.t 26)),
   .op (some 28) (some (25, false)) (.faddr 2 (.t 2)),
   .op (some 29) (some (25, false)) (.load false 1 (.t 28)),
   .op (some 30) (some (25, false)) (.call .f (.c (.fn 56 [])) [.t 27, .t 29]),
   .op (some 31) none (.pick (.t 25) (.c (.bool true)) (.t 30)),
   .op (some 5) none (.mov (.t 31))])
   (.cut
   (.cond (.t 5)
   (.seq
   (.ops [
   .op (some 4) none (.mov (.c (.int .i64 (5))))])
   .ret)
   (.seq
   (.ops [
   .op (some 33) none (.faddr 3 (.t 2)),
   .op (some 34) none (.load false 1 (.t 33)),
   .op (some 35) none (.bin .lss false [] (.t 34) (.c (.int .i64 (0)))),
   .op (some 36) none (.mov (.t 35)),
   .op (some 37) (some (36, false)) (.faddr 3 (.t 2)),
   .op (some 38) (some (36, false)) (.load false 1 (.t 37)),
   .op (some 39) (some (36, false)) (.bin .gtr false [] (.t 38) (.c (.int .i64 (100)))),
   .op (some 40) none (.pick (.t 36) (.c (.bool true)) (.t 39)),
   .op (some 32) none (.mov (.t 40))])
   (.cut
   (.cond (.t 32)
   (.seq
   (.ops [
   .op (some 4) none (.mov (.c (.int .i64 (3))))])
   .ret)
   .skip)))))))
   (.cut
   (.seq
   (.ops [
   .op (some 4) none (.mov (.c (.int .i64 (0))))])
   .ret)))))
def r_strips_operator : List RVar := [.tmp 4]
def n_strips_operator : Nat := 41
theorem k_strips_operator : chkFn Go.Proofs.Try.prog 53 n_strips_operator r_strips_operator c_strips_operator = true := by kernel_rfl
theorem f_strips_operator (o : SOp) (n : Int) (ho : SoOk o) : Fc Go.Proofs.Try.prog 53 [soV o, .int .i64 n] (.int .i64 (opCode n o)) := by
  obtain ⟨l1, l2, l3⟩ := ho
  have h1 := f_strips_IsSet o.pre n l1
  have h2 := f_strips_IsSet o.add n l2
  have h3 := f_strips_IsSet o.del n l3
  cases e1 : isSetB n o.pre with
  | false =>
    rw [e1] at h1
    refine Fn.step mixed k_strips_operator ?_
    repeat' (first | refine i_len rfl ?_ | refine i_s rfl ?_ | refine i_lenm rfl rfl rfl ?_ | refine c_seq ?_ | refine c_cut0 ?_ | refine c_ops ?_ | refine i_nil ?_ | refine e_seq ?_ | refine e_block ?_ | refine c_block ?_ | refine c_skip ?_ | refine c_ret ?_ | refine c_exit ?_ | refine e_exit rfl ?_ | refine i_s0 rfl ?_ | refine c_leaf ?_ | refine i_gt rfl ?_ | refine i_gf rfl ?_ | refine i_gd rfl ?_ | refine c_t rfl ?_ | refine c_f rfl ?_ | refine i_conv rfl (by simp only [InR, List.length_map]; omega) ?_ | refine i_add rfl rfl (by simp only [InR, List.length_map]; omega) ?_ | refine i_sub rfl rfl (by simp only [InR, List.length_map]; omega) ?_ | refine i_ixm rfl rfl (by assumption) ?_ | refine i_iai rfl rfl (by omega) (by assumption) rfl ?_ | refine i_iam rfl rfl (by assumption) rfl ?_ | refine i_tk rfl rfl (by omega) ?_ | refine i_stb rfl ?_ | refine i_alloc rfl ?_ | refine i_box rfl rfl ?_ | refine i_nv rfl ?_ | refine c_node ?_ ?_ | refine i_g rfl (fun h => ?_) (fun h => ?_) | refine c_cond rfl (fun h => ?_) (fun h => ?_) | refine i_f rfl rfl (h1) rfl ?_)
    exact e_ret ⟨rfl, _, rfl, congrArg (V.int .i64) (opc5 (.inl e1))⟩
  | true =>
  cases e2 : isSetB n o.add with
  | false =>
    rw [e1] at h1
    rw [e2] at h2
    refine Fn.step mixed k_strips_operator ?_
    repeat' (first | refine i_len rfl ?_ | refine i_s rfl ?_ | refine i_lenm rfl rfl rfl ?_ | refine c_seq ?_ | refine c_cut0 ?_ | refine c_ops ?_ | refine i_nil ?_ | refine e_seq ?_ | refine e_block ?_ | refine c_block ?_ | refine c_skip ?_ | refine c_ret ?_ | refine c_exit ?_ | refine e_exit rfl ?_ | refine i_s0 rfl ?_ | refine c_leaf ?_ | refine i_gt rfl ?_ | refine i_gf rfl ?_ | refine i_gd rfl ?_ | refine c_t rfl ?_ | refine c_f rfl ?_ | refine i_conv rfl (by simp only [InR, List.length_map]; omega) ?_ | refine i_add rfl rfl (by simp only [InR, List.length_map]; omega) ?_ | refine i_sub rfl rfl (by simp only [InR, List.length_map]; omega) ?_ | refine i_ixm rfl rfl (by assumption) ?_ | refine i_iai rfl rfl (by omega) (by assumption) rfl ?_ | refine i_iam rfl rfl (by assumption) rfl ?_ | refine i_tk rfl rfl (by omega) ?_ | refine i_stb rfl ?_ | refine i_alloc rfl ?_ | refine i_box rfl rfl ?_ | refine i_nv rfl ?_ | refine c_node ?_ ?_ | refine i_g rfl (fun h => ?_) (fun h => ?_) | refine c_cond rfl (fun h => ?_) (fun h => ?_) | refine i_f rfl rfl (h1) rfl ?_ | refine i_f rfl rfl (h2) rfl ?_)
    exact e_ret ⟨rfl, _, rfl, congrArg (V.int .i64) (opc5 (.inr (.inl e2)))⟩
  | true =>
  cases e3 : isSetB n o.del with
  | false =>
    rw [e1] at h1
    rw [e2] at h2
    rw [e3] at h3
    refine Fn.step mixed k_strips_operator ?_
    repeat' (first | refine i_len rfl ?_ | refine i_s rfl ?_ | refine i_lenm rfl rfl rfl ?_ | refine c_seq ?_ | refine c_cut0 ?_ | refine c_ops ?_ | refine i_nil ?_ | refine e_seq ?_ | refine e_block ?_ | refine c_block ?_ | refine c_skip ?_ | refine c_ret ?_ | refine c_exit ?_ | refine e_exit rfl ?_ | refine i_s0 rfl ?_ | refine c_leaf ?_ | refine i_gt rfl ?_ | refine i_gf rfl ?_ | refine i_gd rfl ?_ | refine c_t rfl ?_ | refine c_f rfl ?_ | refine i_conv rfl (by simp only [InR, List.length_map]; omega) ?_ | refine i_add rfl rfl (by simp only [InR, List.length_map]; omega) ?_ | refine i_sub rfl rfl (by simp only [InR, List.length_map]; omega) ?_ | refine i_ixm rfl rfl (by assumption) ?_ | refine i_iai rfl rfl (by omega) (by assumption) rfl ?_ | refine i_iam rfl rfl (by assumption) rfl ?_ | refine i_tk rfl rfl (by omega) ?_ | refine i_stb rfl ?_ | refine i_alloc rfl ?_ | refine i_box rfl rfl ?_ | refine i_nv rfl ?_ | refine c_node ?_ ?_ | refine i_g rfl (fun h => ?_) (fun h => ?_) | refine c_cond rfl (fun h => ?_) (fun h => ?_) | refine i_f rfl rfl (h1) rfl ?_ | refine i_f rfl rfl (h2) rfl ?_ | refine i_f rfl rfl (h3) rfl ?_)
    exact e_ret ⟨rfl, _, rfl, congrArg (V.int .i64) (opc5 (.inr (.inr (.inl e3))))⟩
  | true =>
  have h4 := f_strips_Meets o.add o.del l2 l3 (isSet_of e3).ss
  rw [meet_disj] at h4
  rw [e1] at h1
  rw [e2] at h2
  rw [e3] at h3
  cases e4 : disjB o.add o.del with
  | false =>
    rw [e4] at h4
    refine Fn.step mixed k_strips_operator ?_
    repeat' (first | refine i_len rfl ?_ | refine i_s rfl ?_ | refine i_lenm rfl rfl rfl ?_ | refine c_seq ?_ | refine c_cut0 ?_ | refine c_ops ?_ | refine i_nil ?_ | refine e_seq ?_ | refine e_block ?_ | refine c_block ?_ | refine c_skip ?_ | refine c_ret ?_ | refine c_exit ?_ | refine e_exit rfl ?_ | refine i_s0 rfl ?_ | refine c_leaf ?_ | refine i_gt rfl ?_ | refine i_gf rfl ?_ | refine i_gd rfl ?_ | refine c_t rfl ?_ | refine c_f rfl ?_ | refine i_conv rfl (by simp only [InR, List.length_map]; omega) ?_ | refine i_add rfl rfl (by simp only [InR, List.length_map]; omega) ?_ | refine i_sub rfl rfl (by simp only [InR, List.length_map]; omega) ?_ | refine i_ixm rfl rfl (by assumption) ?_ | refine i_iai rfl rfl (by omega) (by assumption) rfl ?_ | refine i_iam rfl rfl (by assumption) rfl ?_ | refine i_tk rfl rfl (by omega) ?_ | refine i_stb rfl ?_ | refine i_alloc rfl ?_ | refine i_box rfl rfl ?_ | refine i_nv rfl ?_ | refine c_node ?_ ?_ | refine i_g rfl (fun h => ?_) (fun h => ?_) | refine c_cond rfl (fun h => ?_) (fun h => ?_) | refine i_f rfl rfl (h1) rfl ?_ | refine i_f rfl rfl (h2) rfl ?_ | refine i_f rfl rfl (h3) rfl ?_ | refine i_f rfl rfl (h4) rfl ?_)
    exact e_ret ⟨rfl, _, rfl, congrArg (V.int .i64) (opc5 (.inr (.inr (.inr e4))))⟩
  | true =>
    rw [e4] at h4
    refine Fn.step mixed k_strips_operator ?_
    repeat' (first | refine i_len rfl ?_ | refine i_s rfl ?_ | refine i_lenm rfl rfl rfl ?_ | refine c_seq ?_ | refine c_cut0 ?_ | refine c_ops ?_ | refine i_nil ?_ | refine e_seq ?_ | refine e_block ?_ | refine c_block ?_ | refine c_skip ?_ | refine c_ret ?_ | refine c_exit ?_ | refine e_exit rfl ?_ | refine i_s0 rfl ?_ | refine c_leaf ?_ | refine i_gt rfl ?_ | refine i_gf rfl ?_ | refine i_gd rfl ?_ | refine c_t rfl ?_ | refine c_f rfl ?_ | refine i_conv rfl (by simp only [InR, List.length_map]; omega) ?_ | refine i_add rfl rfl (by simp only [InR, List.length_map]; omega) ?_ | refine i_sub rfl rfl (by simp only [InR, List.length_map]; omega) ?_ | refine i_ixm rfl rfl (by assumption) ?_ | refine i_iai rfl rfl (by omega) (by assumption) rfl ?_ | refine i_iam rfl rfl (by assumption) rfl ?_ | refine i_tk rfl rfl (by omega) ?_ | refine i_stb rfl ?_ | refine i_alloc rfl ?_ | refine i_box rfl rfl ?_ | refine i_nv rfl ?_ | refine c_node ?_ ?_ | refine i_g rfl (fun h => ?_) (fun h => ?_) | refine c_cond rfl (fun h => ?_) (fun h => ?_) | refine i_f rfl rfl (h1) rfl ?_ | refine i_f rfl rfl (h2) rfl ?_ | refine i_f rfl rfl (h3) rfl ?_ | refine i_f rfl rfl (h4) rfl ?_)
    all_goals
      refine e_ret ⟨rfl, _, rfl, congrArg (V.int .i64) ?_⟩
      rw [opc e1 e2 e3 e4]
      clear h1 h2 h3 h4
      simp at *
      omega
theorem sF1 {t : STask} (h : t.facts < 0 ∨ t.facts > 24) : sFault t = ⟨3, -1⟩ := if_pos h
theorem sF2 {t : STask} (h : ¬ (t.facts < 0 ∨ t.facts > 24)) (h2 : isSetB t.facts t.init = false) : sFault t = ⟨5, -2⟩ := by unfold sFault; rw [if_neg h, if_pos h2]
theorem sF3 {t : STask} (h : ¬ (t.facts < 0 ∨ t.facts > 24)) (h2 : isSetB t.facts t.init = true) (h3 : isSetB t.facts t.goal = false) : sFault t = ⟨5, -3⟩ := by unfold sFault; rw [if_neg h, if_neg (by simp [h2]), if_pos h3]
theorem sF4 {t : STask} (h : ¬ (t.facts < 0 ∨ t.facts > 24)) (h2 : isSetB t.facts t.init = true) (h3 : isSetB t.facts t.goal = true) (h4 : t.ops.length > 40) : sFault t = ⟨2, -1⟩ := by unfold sFault; rw [if_neg h, if_neg (by simp [h2]), if_neg (by simp [h3]), if_pos h4]
theorem sF5 {t : STask} (h : ¬ (t.facts < 0 ∨ t.facts > 24)) (h2 : isSetB t.facts t.init = true) (h3 : isSetB t.facts t.goal = true) (h4 : ¬ t.ops.length > 40) : sFault t = (scan (sopBad t.facts t.ops) 0 t.ops.length).getD okF := by unfold sFault; rw [if_neg h, if_neg (by simp [h2]), if_neg (by simp [h3]), if_neg h4]
theorem sF_hit {t : STask} (hel : sFault t = (scan (sopBad t.facts t.ops) 0 t.ops.length).getD okF) {k : Nat} {f : Flt} (hi : ∀ j, j < k → sopBad t.facts t.ops j = none) (hk : k < t.ops.length) (hf : sopBad t.facts t.ops k = some f) : sFault t = f := by
  rw [hel, scan0_hit hi hk hf]; rfl
theorem sF_none {t : STask} (hel : sFault t = (scan (sopBad t.facts t.ops) 0 t.ops.length).getD okF) (hi : ∀ j, j < t.ops.length → sopBad t.facts t.ops j = none) : sFault t = okF := by
  rw [hel, scan0_none hi]; rfl
end Hm
end

section
/- Contracts: faults of tasks, states and plans. -/
namespace Hm
open Go
set_option maxRecDepth 100000
set_option maxHeartbeats 2000000
set_option linter.unusedSimpArgs false
set_option linter.unusedVariables false
def c_strips_Validate : Cmd :=
  (.seq
   (.ops [
   .op (some 1) none (.box 2816068 4 (.t 0)),
   .op (some 2) none (.alloc 2816130 (.agg [.int .i64 (0), .int .i64 (0)]))])
   (.cut
   (.seq
   (.block 0
   (.seq
   (.ops [
   .op (some 7) none (.faddr 0 (.t 1)),
   .op (some 8) none (.load false 1 (.t 7)),
   .op (some 9) none (.bin .lss false [] (.t 8) (.c (.int .i64 (0)))),
   .op (some 10) none (.mov (.t 9)),
   .op (some 11) (some (10, false)) (.faddr 0 (.t 1)),
   .op (some 12) (some (10, false)) (.load false 1 (.t 11)),
   .op (some 13) (some (10, false)) (.bin .gtr false [] (.t 12) (.c (.int .i64 (24)))),
   .op (some 14) none (.pick (.t 10) (.c (.bool true)) (.t 13)),
   .op (some 6) none (.mov (.t 14))])
   (.cut
   (.cond (.t 6)
   (.seq
   (.ops [
   .op (some 15) none (.build [.int .i64 (0), .int .i64 (0)] [(0, 1, .c (.int .i64 (3))), (1, 1, .c (.int .i64 (-1)))]),
   .op none none (.store 2 (.t 2) (.t 15))])
   .ret)
   (.seq
   (.ops [
   .op (some 17) none (.faddr 1 (.t 1)),
   .op (some 18) none (.load false 1 (.t 17)),
   .op (some 19) none (.faddr 0 (.t 1)),
   .op (some 20) none (.load false 1 (.t 19)),
   .op (some 21) none (.call .f (.c (.fn 51 [])) [.t 18, .t 20]),
   .op (some 22) none (.not (.t 21)),
   .op (some 16) none (.mov (.t 22))])
   (.cut
   (.cond (.t 16)
   (.seq
   (.ops [
   .op (some 23) none (.build [.int .i64 (0), .int .i64 (0)] [(0, 1, .c (.int .i64 (5))), (1, 1, .c (.int .i64 (-2)))]),
   .op none none (.store 2 (.t 2) (.t 23))])
   .ret)
   (.seq
   (.ops [
   .op (some 25) none (.faddr 2 (.t 1)),
   .op (some 26) none (.load false 1 (.t 25)),
   .op (some 27) none (.faddr 0 (.t 1)),
   .op (some 28) none (.load false 1 (.t 27)),
   .op (some 29) none (.call .f (.c (.fn 51 [])) [.t 26, .t 28]),
   .op (some 30) none (.not (.t 29)),
   .op (some 24) none (.mov (.t 30))])
   (.cut
   (.cond (.t 24)
   (.seq
   (.ops [
   .op (some 31) none (.build [.int .i64 (0), .int .i64 (0)] [(0, 1, .c (.int .i64 (5))), (1, 1, .c (.int .i64 (-3)))]),
   .op none none (.store 2 (.t 2) (.t 31))])
   .ret)
   (.seq
   (.ops [
   .op (some 33) none (.faddr 3 (.t 1)),
   .op (some 34) none (.load false 1 (.t 33)),
   .op (some 35) none (.len false (.t 34)),
   .op (some 36) none (.bin .gtr false [] (.t 35) (.c (.int .i64 (40)))),
   .op (some 32) none (.mov (.t 36))])
   (.cut
   (.cond (.t 32)
   (.seq
   (.ops [
   .op (some 37) none (.build [.int .i64 (0), .int .i64 (0)] [(0, 1, .c (.int .i64 (2))), (1, 1, .c (.int .i64 (-1)))]),
   .op none none (.store 2 (.t 2) (.t 37))])
   .ret)
   .skip)))))))))))))
   (.cut
   (.seq
   (.seq
   (.ops [
   .op (some 38) none (.faddr 3 (.t 1)),
   .op (some 39) none (.load false 1 (.t 38)),
   .op (some 40) none (.len false (.t 39)),
   .op (some 41) none (.mov (.c (.int .i64 (0))))])
   (.cut
   (.block 1
   (.loop
   (.seq
   (.ops [
   .op (some 42) none (.bin .lss false [] (.t 41) (.t 40))])
   (.cut
   (.seq
   (.cond (.t 42)
   .skip
   (.exit 1))
   (.cut
   (.seq
   (.block 2
   (.seq
   (.ops [
   .op (some 43) none (.mov (.t 41)),
   .op (some 44) none (.iaddr 4 (.t 39) (.t 41)),
   .op (some 45) none (.load true 4 (.t 44)),
   .op (some 4) none (.alloc 2816260 (.agg [.sl .nil [], .sl .nil [], .sl .nil [], .int .i64 (0)])),
   .op (some 3) none (.mov (.t 43)),
   .op none none (.store 4 (.t 4) (.t 45))])
   (.cut
   (.seq
   (.ops [
   .op (some 46) none (.load true 4 (.t 4)),
   .op (some 47) none (.faddr 0 (.t 1)),
   .op (some 48) none (.load false 1 (.t 47)),
   .op (some 49) none (.call .f (.c (.fn 53 [])) [.t 46, .t 48]),
   .op (some 5) none (.mov (.t 49))])
   (.cut
   (.seq
   (.ops [
   .op (some 50) none (.mov (.t 5)),
   .op (some 51) none (.bin .neq false [.i] (.t 50) (.c (.int .i64 (0))))])
   (.cut
   (.cond (.t 51)
   (.seq
   (.ops [
   .op (some 52) none (.mov (.t 5)),
   .op (some 53) none (.mov (.t 3)),
   .op (some 54) none (.build [.int .i64 (0), .int .i64 (0)] [(0, 1, .t 52), (1, 1, .t 53)]),
   .op none none (.store 2 (.t 2) (.t 54))])
   .ret)
   .skip))))))))
   (.cut
   (.ops [
   .op (some 55) none (.bin .add false [] (.t 41) (.c (.int .i64 (1)))),
   .op (some 41) none (.mov (.t 55))])))))))))))
   (.cut
   (.seq
   (.ops [
   .op (some 56) none (.build [.int .i64 (0), .int .i64 (0)] []),
   .op none none (.store 2 (.t 2) (.t 56))])
   .ret)))))))
def r_strips_Validate : List RVar := [.cell true 2 2]
def n_strips_Validate : Nat := 57
theorem k_strips_Validate : chkFn Go.Proofs.Try.prog 44 n_strips_Validate r_strips_Validate c_strips_Validate = true := by kernel_rfl
theorem f_strips_Validate (t : STask) (ho : SkOk t) : Fc Go.Proofs.Try.prog 44 [skV t] (ftV (sFault t)) := by
  have h1 := f_strips_IsSet t.init t.facts ho.i
  have h2 := f_strips_IsSet t.goal t.facts ho.g
  have l5 := ho.o
  have hop : ∀ o ∈ t.ops, Fc Go.Proofs.Try.prog 53 [soV o, .int .i64 t.facts] (.int .i64 (opCode t.facts o)) := fun o h => f_strips_operator o t.facts (ho.e o h)
  by_cases hf : t.facts < 0 ∨ t.facts > 24
  · refine Fn.step mixed k_strips_Validate ?_
    repeat' (first | refine i_len rfl ?_ | refine i_s rfl ?_ | refine i_lenm rfl rfl rfl ?_ | refine c_seq ?_ | refine c_cut0 ?_ | refine c_ops ?_ | refine i_nil ?_ | refine e_seq ?_ | refine e_block ?_ | refine c_block ?_ | refine c_skip ?_ | refine c_ret ?_ | refine c_exit ?_ | refine e_exit rfl ?_ | refine i_s0 rfl ?_ | refine c_leaf ?_ | refine i_gt rfl ?_ | refine i_gf rfl ?_ | refine i_gd rfl ?_ | refine c_t rfl ?_ | refine c_f rfl ?_ | refine i_conv rfl (by simp only [InR, List.length_map]; omega) ?_ | refine i_add rfl rfl (by simp only [InR, List.length_map]; omega) ?_ | refine i_sub rfl rfl (by simp only [InR, List.length_map]; omega) ?_ | refine i_ixm rfl rfl (by assumption) ?_ | refine i_iai rfl rfl (by omega) (by assumption) rfl ?_ | refine i_iam rfl rfl (by assumption) rfl ?_ | refine i_tk rfl rfl (by omega) ?_ | refine i_stb rfl ?_ | refine i_alloc rfl ?_ | refine i_box rfl rfl ?_ | refine i_nv rfl ?_ | refine c_node ?_ ?_ | refine i_g rfl (fun h => ?_) (fun h => ?_) | refine c_cond rfl (fun h => ?_) (fun h => ?_))
    all_goals first
      | exact e_ret ⟨rfl, _, rfl, congr_ft (sF1 hf)⟩
      | (exfalso; clear h1 h2 ho hop; simp at *; omega)
  have hf' : 0 ≤ t.facts ∧ t.facts ≤ 24 := by omega
  cases e1 : isSetB t.facts t.init with
  | false =>
    rw [e1] at h1
    refine Fn.step mixed k_strips_Validate ?_
    repeat' (first | refine i_len rfl ?_ | refine i_s rfl ?_ | refine i_lenm rfl rfl rfl ?_ | refine c_seq ?_ | refine c_cut0 ?_ | refine c_ops ?_ | refine i_nil ?_ | refine e_seq ?_ | refine e_block ?_ | refine c_block ?_ | refine c_skip ?_ | refine c_ret ?_ | refine c_exit ?_ | refine e_exit rfl ?_ | refine i_s0 rfl ?_ | refine c_leaf ?_ | refine i_gt rfl ?_ | refine i_gf rfl ?_ | refine i_gd rfl ?_ | refine c_t rfl ?_ | refine c_f rfl ?_ | refine i_conv rfl (by simp only [InR, List.length_map]; omega) ?_ | refine i_add rfl rfl (by simp only [InR, List.length_map]; omega) ?_ | refine i_sub rfl rfl (by simp only [InR, List.length_map]; omega) ?_ | refine i_ixm rfl rfl (by assumption) ?_ | refine i_iai rfl rfl (by omega) (by assumption) rfl ?_ | refine i_iam rfl rfl (by assumption) rfl ?_ | refine i_tk rfl rfl (by omega) ?_ | refine i_stb rfl ?_ | refine i_alloc rfl ?_ | refine i_box rfl rfl ?_ | refine i_nv rfl ?_ | refine c_node ?_ ?_ | refine i_g rfl (fun h => ?_) (fun h => ?_) | refine c_cond rfl (fun h => ?_) (fun h => ?_) | refine i_f rfl rfl (h1) rfl ?_)
    all_goals first
      | exact e_ret ⟨rfl, _, rfl, congr_ft (sF2 hf e1)⟩
      | (exfalso; clear h1 h2 ho hop; simp at *; omega)
  | true =>
  cases e2 : isSetB t.facts t.goal with
  | false =>
    rw [e1] at h1
    rw [e2] at h2
    refine Fn.step mixed k_strips_Validate ?_
    repeat' (first | refine i_len rfl ?_ | refine i_s rfl ?_ | refine i_lenm rfl rfl rfl ?_ | refine c_seq ?_ | refine c_cut0 ?_ | refine c_ops ?_ | refine i_nil ?_ | refine e_seq ?_ | refine e_block ?_ | refine c_block ?_ | refine c_skip ?_ | refine c_ret ?_ | refine c_exit ?_ | refine e_exit rfl ?_ | refine i_s0 rfl ?_ | refine c_leaf ?_ | refine i_gt rfl ?_ | refine i_gf rfl ?_ | refine i_gd rfl ?_ | refine c_t rfl ?_ | refine c_f rfl ?_ | refine i_conv rfl (by simp only [InR, List.length_map]; omega) ?_ | refine i_add rfl rfl (by simp only [InR, List.length_map]; omega) ?_ | refine i_sub rfl rfl (by simp only [InR, List.length_map]; omega) ?_ | refine i_ixm rfl rfl (by assumption) ?_ | refine i_iai rfl rfl (by omega) (by assumption) rfl ?_ | refine i_iam rfl rfl (by assumption) rfl ?_ | refine i_tk rfl rfl (by omega) ?_ | refine i_stb rfl ?_ | refine i_alloc rfl ?_ | refine i_box rfl rfl ?_ | refine i_nv rfl ?_ | refine c_node ?_ ?_ | refine i_g rfl (fun h => ?_) (fun h => ?_) | refine c_cond rfl (fun h => ?_) (fun h => ?_) | refine i_f rfl rfl (h1) rfl ?_ | refine i_f rfl rfl (h2) rfl ?_)
    all_goals first
      | exact e_ret ⟨rfl, _, rfl, congr_ft (sF3 hf e1 e2)⟩
      | (exfalso; clear h1 h2 ho hop; simp at *; omega)
  | true =>
  rw [e1] at h1
  rw [e2] at h2
  by_cases h4 : t.ops.length > 40
  · refine Fn.step mixed k_strips_Validate ?_
    repeat' (first | refine i_len rfl ?_ | refine i_s rfl ?_ | refine i_lenm rfl rfl rfl ?_ | refine c_seq ?_ | refine c_cut0 ?_ | refine c_ops ?_ | refine i_nil ?_ | refine e_seq ?_ | refine e_block ?_ | refine c_block ?_ | refine c_skip ?_ | refine c_ret ?_ | refine c_exit ?_ | refine e_exit rfl ?_ | refine i_s0 rfl ?_ | refine c_leaf ?_ | refine i_gt rfl ?_ | refine i_gf rfl ?_ | refine i_gd rfl ?_ | refine c_t rfl ?_ | refine c_f rfl ?_ | refine i_conv rfl (by simp only [InR, List.length_map]; omega) ?_ | refine i_add rfl rfl (by simp only [InR, List.length_map]; omega) ?_ | refine i_sub rfl rfl (by simp only [InR, List.length_map]; omega) ?_ | refine i_ixm rfl rfl (by assumption) ?_ | refine i_iai rfl rfl (by omega) (by assumption) rfl ?_ | refine i_iam rfl rfl (by assumption) rfl ?_ | refine i_tk rfl rfl (by omega) ?_ | refine i_stb rfl ?_ | refine i_alloc rfl ?_ | refine i_box rfl rfl ?_ | refine i_nv rfl ?_ | refine c_node ?_ ?_ | refine i_g rfl (fun h => ?_) (fun h => ?_) | refine c_cond rfl (fun h => ?_) (fun h => ?_) | refine i_f rfl rfl (h1) rfl ?_ | refine i_f rfl rfl (h2) rfl ?_)
    all_goals first
      | exact e_ret ⟨rfl, _, rfl, congr_ft (sF4 hf e1 e2 h4)⟩
      | (exfalso; clear h1 h2 ho hop; simp at *; omega)
  have hel := sF5 hf e1 e2 h4
  refine Fn.step mixed k_strips_Validate ?_
  repeat' (first | refine i_len rfl ?_ | refine i_s rfl ?_ | refine i_lenm rfl rfl rfl ?_ | refine c_seq ?_ | refine c_cut0 ?_ | refine c_ops ?_ | refine i_nil ?_ | refine e_seq ?_ | refine e_block ?_ | refine c_block ?_ | refine c_skip ?_ | refine c_ret ?_ | refine c_exit ?_ | refine e_exit rfl ?_ | refine i_s0 rfl ?_ | refine c_leaf ?_ | refine i_gt rfl ?_ | refine i_gf rfl ?_ | refine i_gd rfl ?_ | refine c_t rfl ?_ | refine c_f rfl ?_ | refine i_conv rfl (by simp only [InR, List.length_map]; omega) ?_ | refine i_add rfl rfl (by simp only [InR, List.length_map]; omega) ?_ | refine i_sub rfl rfl (by simp only [InR, List.length_map]; omega) ?_ | refine i_ixm rfl rfl (by assumption) ?_ | refine i_iai rfl rfl (by omega) (by assumption) rfl ?_ | refine i_iam rfl rfl (by assumption) rfl ?_ | refine i_tk rfl rfl (by omega) ?_ | refine i_stb rfl ?_ | refine i_alloc rfl ?_ | refine i_box rfl rfl ?_ | refine i_nv rfl ?_ | refine c_node ?_ ?_ | refine i_g rfl (fun h => ?_) (fun h => ?_) | refine c_cond rfl (fun h => ?_) (fun h => ?_) | refine i_f rfl rfl (h1) rfl ?_ | refine i_f rfl rfl (h2) rfl ?_)
  all_goals first | (exfalso; clear h1 h2 ho hop hel; simp at *; omega) | skip
  refine c_for t.ops.length (fun k => [(1, .bptr 2816068 0), (2, .bptr 2816130 0), (39, .sl .p (t.ops.map soV)), (40, .int .i64 t.ops.length), (41, .int .i64 k)]) (fun _ => [(2816068, .box (skV t)), (2816130, .box (ftV okF))]) (fun k => ∀ j, j < k → sopBad t.facts t.ops j = none) all_zero ⟨by repeat (first | exact trivial | refine ⟨rfl, ?_⟩), by repeat (first | exact trivial | refine ⟨rfl, ?_⟩), rfl⟩ fun k hk hi => ?_
  clear h1 h2
  repeat (first | refine i_len rfl ?_ | refine i_s rfl ?_ | refine i_lenm rfl rfl rfl ?_ | refine c_seq ?_ | refine c_cut0 ?_ | refine c_ops ?_ | refine i_nil ?_ | refine e_seq ?_ | refine e_block ?_ | refine c_block ?_ | refine c_skip ?_ | refine c_ret ?_ | refine c_exit ?_ | refine e_exit rfl ?_ | refine i_s0 rfl ?_ | refine c_leaf ?_ | refine i_gt rfl ?_ | refine i_gf rfl ?_ | refine i_gd rfl ?_ | refine c_t rfl ?_ | refine c_f rfl ?_ | refine i_conv rfl (by simp only [InR, List.length_map]; omega) ?_ | refine i_add rfl rfl (by simp only [InR, List.length_map]; omega) ?_ | refine i_sub rfl rfl (by simp only [InR, List.length_map]; omega) ?_ | refine i_ixm rfl rfl (by assumption) ?_ | refine i_iai rfl rfl (by omega) (by assumption) rfl ?_ | refine i_iam rfl rfl (by assumption) rfl ?_ | refine i_tk rfl rfl (by omega) ?_ | refine i_stb rfl ?_ | refine i_alloc rfl ?_ | refine i_box rfl rfl ?_ | refine i_nv rfl ?_)
  refine c_cond rfl (fun h => ?_) (fun h => ?_)
  · have hlt : k < t.ops.length := by simpa using h
    obtain ⟨o, hx⟩ := get_some hlt
    have hc := hop o (mem_get hx)
    have hb := sopBad_eq (n := t.facts) hx
    clear h hop ho
    repeat (first | refine i_len rfl ?_ | refine i_s rfl ?_ | refine i_lenm rfl rfl rfl ?_ | refine c_seq ?_ | refine c_cut0 ?_ | refine c_ops ?_ | refine i_nil ?_ | refine e_seq ?_ | refine e_block ?_ | refine c_block ?_ | refine c_skip ?_ | refine c_ret ?_ | refine c_exit ?_ | refine e_exit rfl ?_ | refine i_s0 rfl ?_ | refine c_leaf ?_ | refine i_gt rfl ?_ | refine i_gf rfl ?_ | refine i_gd rfl ?_ | refine c_t rfl ?_ | refine c_f rfl ?_ | refine i_conv rfl (by simp only [InR, List.length_map]; omega) ?_ | refine i_add rfl rfl (by simp only [InR, List.length_map]; omega) ?_ | refine i_sub rfl rfl (by simp only [InR, List.length_map]; omega) ?_ | refine i_ixm rfl rfl (by assumption) ?_ | refine i_iai rfl rfl (by omega) (by assumption) rfl ?_ | refine i_iam rfl rfl (by assumption) rfl ?_ | refine i_tk rfl rfl (by omega) ?_ | refine i_stb rfl ?_ | refine i_alloc rfl ?_ | refine i_box rfl rfl ?_ | refine i_nv rfl ?_ | refine i_f rfl rfl (hc) rfl ?_)
    clear hc
    refine c_cond rfl (fun h => ?_) (fun h => ?_)
    · have hne : opCode t.facts o ≠ 0 := by simpa using h
      rw [if_neg hne] at hb
      repeat' (first | refine i_len rfl ?_ | refine i_s rfl ?_ | refine i_lenm rfl rfl rfl ?_ | refine c_seq ?_ | refine c_cut0 ?_ | refine c_ops ?_ | refine i_nil ?_ | refine e_seq ?_ | refine e_block ?_ | refine c_block ?_ | refine c_skip ?_ | refine c_ret ?_ | refine c_exit ?_ | refine e_exit rfl ?_ | refine i_s0 rfl ?_ | refine c_leaf ?_ | refine i_gt rfl ?_ | refine i_gf rfl ?_ | refine i_gd rfl ?_ | refine c_t rfl ?_ | refine c_f rfl ?_ | refine i_conv rfl (by simp only [InR, List.length_map]; omega) ?_ | refine i_add rfl rfl (by simp only [InR, List.length_map]; omega) ?_ | refine i_sub rfl rfl (by simp only [InR, List.length_map]; omega) ?_ | refine i_ixm rfl rfl (by assumption) ?_ | refine i_iai rfl rfl (by omega) (by assumption) rfl ?_ | refine i_iam rfl rfl (by assumption) rfl ?_ | refine i_tk rfl rfl (by omega) ?_ | refine i_stb rfl ?_ | refine i_alloc rfl ?_ | refine i_box rfl rfl ?_ | refine i_nv rfl ?_ | refine c_node ?_ ?_ | refine i_g rfl (fun h => ?_) (fun h => ?_) | refine c_cond rfl (fun h => ?_) (fun h => ?_))
      exact e_ret ⟨rfl, _, rfl, congr_ft (sF_hit hel hi hlt hb)⟩
    · have hne : opCode t.facts o = 0 := by simpa using h
      rw [if_pos hne] at hb
      repeat' (first | refine i_len rfl ?_ | refine i_s rfl ?_ | refine i_lenm rfl rfl rfl ?_ | refine c_seq ?_ | refine c_cut0 ?_ | refine c_ops ?_ | refine i_nil ?_ | refine e_seq ?_ | refine e_block ?_ | refine c_block ?_ | refine c_skip ?_ | refine c_ret ?_ | refine c_exit ?_ | refine e_exit rfl ?_ | refine i_s0 rfl ?_ | refine c_leaf ?_ | refine i_gt rfl ?_ | refine i_gf rfl ?_ | refine i_gd rfl ?_ | refine c_t rfl ?_ | refine c_f rfl ?_ | refine i_conv rfl (by simp only [InR, List.length_map]; omega) ?_ | refine i_add rfl rfl (by simp only [InR, List.length_map]; omega) ?_ | refine i_sub rfl rfl (by simp only [InR, List.length_map]; omega) ?_ | refine i_ixm rfl rfl (by assumption) ?_ | refine i_iai rfl rfl (by omega) (by assumption) rfl ?_ | refine i_iam rfl rfl (by assumption) rfl ?_ | refine i_tk rfl rfl (by omega) ?_ | refine i_stb rfl ?_ | refine i_alloc rfl ?_ | refine i_box rfl rfl ?_ | refine i_nv rfl ?_ | refine c_node ?_ ?_ | refine i_g rfl (fun h => ?_) (fun h => ?_) | refine c_cond rfl (fun h => ?_) (fun h => ?_))
      exact e_for hlt (all_succ hi hb) ⟨by repeat (first | exact trivial | refine ⟨rfl, ?_⟩), by repeat (first | exact trivial | refine ⟨rfl, ?_⟩), rfl⟩
  · have hge : ¬ k < t.ops.length := by simpa using h
    repeat' (first | refine i_len rfl ?_ | refine i_s rfl ?_ | refine i_lenm rfl rfl rfl ?_ | refine c_seq ?_ | refine c_cut0 ?_ | refine c_ops ?_ | refine i_nil ?_ | refine e_seq ?_ | refine e_block ?_ | refine c_block ?_ | refine c_skip ?_ | refine c_ret ?_ | refine c_exit ?_ | refine e_exit rfl ?_ | refine i_s0 rfl ?_ | refine c_leaf ?_ | refine i_gt rfl ?_ | refine i_gf rfl ?_ | refine i_gd rfl ?_ | refine c_t rfl ?_ | refine c_f rfl ?_ | refine i_conv rfl (by simp only [InR, List.length_map]; omega) ?_ | refine i_add rfl rfl (by simp only [InR, List.length_map]; omega) ?_ | refine i_sub rfl rfl (by simp only [InR, List.length_map]; omega) ?_ | refine i_ixm rfl rfl (by assumption) ?_ | refine i_iai rfl rfl (by omega) (by assumption) rfl ?_ | refine i_iam rfl rfl (by assumption) rfl ?_ | refine i_tk rfl rfl (by omega) ?_ | refine i_stb rfl ?_ | refine i_alloc rfl ?_ | refine i_box rfl rfl ?_ | refine i_nv rfl ?_ | refine c_node ?_ ?_ | refine i_g rfl (fun h => ?_) (fun h => ?_) | refine c_cond rfl (fun h => ?_) (fun h => ?_))
    exact e_ret ⟨rfl, _, rfl, congr_ft (sF_none hel fun j hj => hi j (by omega))⟩
def c_R1_TaskFault : Cmd :=
  (.seq
   (.ops [
   .op (some 1) none (.box 1600068 4 (.t 0)),
   .op (some 2) none (.alloc 1600130 (.agg [.int .i64 (0), .int .i64 (0)]))])
   (.cut
   (.seq
   (.seq
   (.ops [
   .op (some 5) none (.faddr 0 (.t 1)),
   .op (some 6) none (.load false 1 (.t 5)),
   .op (some 7) none (.call .f (.c (.fn 19 [])) [.t 6, .c (.int .i64 (0)), .c (.int .i64 (24))]),
   .op (some 8) none (.not (.t 7))])
   (.cut
   (.cond (.t 8)
   (.seq
   (.ops [
   .op (some 9) none (.call .f (.c (.fn 16 [])) [.c (.int .i64 (3)), .c (.int .i64 (-1))]),
   .op none none (.store 2 (.t 2) (.t 9))])
   .ret)
   .skip)))
   (.cut
   (.seq
   (.seq
   (.ops [
   .op (some 10) none (.faddr 1 (.t 1)),
   .op (some 11) none (.load false 1 (.t 10)),
   .op (some 12) none (.faddr 0 (.t 1)),
   .op (some 13) none (.load false 1 (.t 12)),
   .op (some 14) none (.call .f (.c (.fn 42 [])) [.t 11, .t 13]),
   .op (some 15) none (.not (.t 14))])
   (.cut
   (.cond (.t 15)
   (.seq
   (.ops [
   .op (some 16) none (.call .f (.c (.fn 16 [])) [.c (.int .i64 (5)), .c (.int .i64 (-2))]),
   .op none none (.store 2 (.t 2) (.t 16))])
   .ret)
   .skip)))
   (.cut
   (.seq
   (.seq
   (.ops [
   .op (some 17) none (.faddr 2 (.t 1)),
   .op (some 18) none (.load false 1 (.t 17)),
   .op (some 19) none (.faddr 0 (.t 1)),
   .op (some 20) none (.load false 1 (.t 19)),
   .op (some 21) none (.call .f (.c (.fn 42 [])) [.t 18, .t 20]),
   .op (some 22) none (.not (.t 21))])
   (.cut
   (.cond (.t 22)
   (.seq
   (.ops [
   .op (some 23) none (.call .f (.c (.fn 16 [])) [.c (.int .i64 (5)), .c (.int .i64 (-3))]),
   .op none none (.store 2 (.t 2) (.t 23))])
   .ret)
   .skip)))
   (.cut
   (.seq
   (.seq
   (.ops [
   .op (some 24) none (.faddr 3 (.t 1)),
   .op (some 25) none (.load false 1 (.t 24)),
   .op (some 26) none (.len false (.t 25)),
   .op (some 27) none (.bin .gtr false [] (.t 26) (.c (.int .i64 (40))))])
   (.cut
   (.cond (.t 27)
   (.seq
   (.ops [
   .op (some 28) none (.call .f (.c (.fn 16 [])) [.c (.int .i64 (2)), .c (.int .i64 (-1))]),
   .op none none (.store 2 (.t 2) (.t 28))])
   .ret)
   .skip)))
   (.cut
   (.seq
   (.seq
   (.ops [
   .op (some 3) none (.mov (.c (.int .i64 (0))))])
   (.cut
   (.block 0
   (.loop
   (.seq
   (.seq
   (.ops [
   .op (some 29) none (.mov (.t 3)),
   .op (some 30) none (.faddr 3 (.t 1)),
   .op (some 31) none (.load false 1 (.t 30)),
   .op (some 32) none (.len false (.t 31)),
   .op (some 33) none (.bin .lss false [] (.t 29) (.t 32))])
   (.cut
   (.cond (.t 33)
   .skip
   (.exit 0))))
   (.cut
   (.seq
   (.block 1
   (.seq
   (.ops [
   .op (some 36) none (.faddr 3 (.t 1)),
   .op (some 37) none (.load false 1 (.t 36)),
   .op (some 38) none (.mov (.t 3)),
   .op (some 39) none (.iaddr 4 (.t 37) (.t 38)),
   .op (some 40) none (.load true 4 (.t 39)),
   .op (some 4) none (.alloc 1600260 (.agg [.sl .nil [], .sl .nil [], .sl .nil [], .int .i64 (0)])),
   .op none none (.store 4 (.t 4) (.t 40))])
   (.cut
   (.seq
   (.seq
   (.ops [
   .op (some 41) none (.faddr 0 (.t 4)),
   .op (some 42) none (.load false 1 (.t 41)),
   .op (some 43) none (.faddr 0 (.t 1)),
   .op (some 44) none (.load false 1 (.t 43)),
   .op (some 45) none (.call .f (.c (.fn 42 [])) [.t 42, .t 44]),
   .op (some 46) none (.not (.t 45)),
   .op (some 47) none (.mov (.t 46)),
   .op (some 48) (some (47, false)) (.faddr 1 (.t 4)),
   .op (some 49) (some (47, false)) (.load false 1 (.t 48)),
   .op (some 50) (some (47, false)) (.faddr 0 (.t 1)),
   .op (some 51) (some (47, false)) (.load false 1 (.t 50)),
   .op (some 52) (some (47, false)) (.call .f (.c (.fn 42 [])) [.t 49, .t 51]),
   .op (some 53) (some (47, false)) (.not (.t 52)),
   .op (some 54) none (.pick (.t 47) (.c (.bool true)) (.t 53)),
   .op (some 55) none (.mov (.t 54)),
   .op (some 56) (some (55, false)) (.faddr 2 (.t 4)),
   .op (some 57) (some (55, false)) (.load false 1 (.t 56)),
   .op (some 58) (some (55, false)) (.faddr 0 (.t 1)),
   .op (some 59) (some (55, false)) (.load false 1 (.t 58)),
   .op (some 60) (some (55, false)) (.call .f (.c (.fn 42 [])) [.t 57, .t 59]),
   .op (some 61) (some (55, false)) (.not (.t 60)),
   .op (some 62) none (.pick (.t 55) (.c (.bool true)) (.t 61)),
   .op (some 63) none (.mov (.t 62)),
   .op (some 64) (some (63, false)) (.faddr 1 (.t 4)),
   .op (some 65) (some (63, false)) (.load false 1 (.t 64)),
   .op (some 66) (some (63, false)) (.faddr 2 (.t 4)),
   .op (some 67) (some (63, false)) (.load false 1 (.t 66)),
   .op (some 68) (some (63, false)) (.call .f (.c (.fn 43 [])) [.t 65, .t 67]),
   .op (some 69) (some (63, false)) (.not (.t 68)),
   .op (some 70) none (.pick (.t 63) (.c (.bool true)) (.t 69))])
   (.cut
   (.cond (.t 70)
   (.seq
   (.ops [
   .op (some 71) none (.mov (.t 3)),
   .op (some 72) none (.call .f (.c (.fn 16 [])) [.c (.int .i64 (5)), .t 71]),
   .op none none (.store 2 (.t 2) (.t 72))])
   .ret)
   .skip)))
   (.cut
   (.seq
   (.ops [
   .op (some 73) none (.faddr 3 (.t 4)),
   .op (some 74) none (.load false 1 (.t 73)),
   .op (some 75) none (.call .f (.c (.fn 19 [])) [.t 74, .c (.int .i64 (0)), .c (.int .i64 (100))]),
   .op (some 76) none (.not (.t 75))])
   (.cut
   (.cond (.t 76)
   (.seq
   (.ops [
   .op (some 77) none (.mov (.t 3)),
   .op (some 78) none (.call .f (.c (.fn 16 [])) [.c (.int .i64 (3)), .t 77]),
   .op none none (.store 2 (.t 2) (.t 78))])
   .ret)
   .skip))))))))
   (.cut
   (.ops [
   .op (some 34) none (.mov (.t 3)),
   .op (some 35) none (.bin .add false [] (.t 34) (.c (.int .i64 (1)))),
   .op (some 3) none (.mov (.t 35))])))))))))
   (.cut
   (.seq
   (.ops [
   .op (some 79) none (.build [.int .i64 (0), .int .i64 (0)] []),
   .op none none (.store 2 (.t 2) (.t 79))])
   .ret)))))))))))))
def r_R1_TaskFault : List RVar := [.cell true 2 2]
def n_R1_TaskFault : Nat := 80
theorem k_R1_TaskFault : chkFn Go.Proofs.Try.prog 25 n_R1_TaskFault r_R1_TaskFault c_R1_TaskFault = true := by kernel_rfl
theorem f_R1_TaskFault (t : STask) (ho : SkOk t) : Fc Go.Proofs.Try.prog 25 [skV t] (ftV (sFault t)) := by
  have l5 := ho.o
  by_cases hf : t.facts < 0 ∨ t.facts > 24
  · refine Fn.step mixed k_R1_TaskFault ?_
    repeat' (first | refine i_len rfl ?_ | refine i_s rfl ?_ | refine i_lenm rfl rfl rfl ?_ | refine c_seq ?_ | refine c_cut0 ?_ | refine c_ops ?_ | refine i_nil ?_ | refine e_seq ?_ | refine e_block ?_ | refine c_block ?_ | refine c_skip ?_ | refine c_ret ?_ | refine c_exit ?_ | refine e_exit rfl ?_ | refine i_s0 rfl ?_ | refine c_leaf ?_ | refine i_gt rfl ?_ | refine i_gf rfl ?_ | refine i_gd rfl ?_ | refine c_t rfl ?_ | refine c_f rfl ?_ | refine i_conv rfl (by simp only [InR, List.length_map]; omega) ?_ | refine i_add rfl rfl (by simp only [InR, List.length_map]; omega) ?_ | refine i_sub rfl rfl (by simp only [InR, List.length_map]; omega) ?_ | refine i_ixm rfl rfl (by assumption) ?_ | refine i_iai rfl rfl (by omega) (by assumption) rfl ?_ | refine i_iam rfl rfl (by assumption) rfl ?_ | refine i_tk rfl rfl (by omega) ?_ | refine i_stb rfl ?_ | refine i_alloc rfl ?_ | refine i_box rfl rfl ?_ | refine i_nv rfl ?_ | refine c_node ?_ ?_ | refine i_g rfl (fun h => ?_) (fun h => ?_) | refine c_cond rfl (fun h => ?_) (fun h => ?_) | refine i_f rfl rfl (f_R1_In _ _ _) rfl ?_ | refine i_f rfl rfl (f_R1_At _ _) rfl ?_)
    all_goals first
      | exact e_ret ⟨rfl, _, rfl, congr_ft (sF1 hf)⟩
      | (exfalso; clear ho; simp at *; omega)
  have hf' : 0 ≤ t.facts ∧ t.facts ≤ 24 := by omega
  have h0 : Fc Go.Proofs.Try.prog 19 [.int .i64 t.facts, .int .i64 0, .int .i64 24] (.bool true) := by
    have := f_R1_In t.facts 0 24
    rwa [show (decide (0 ≤ t.facts) && decide (t.facts ≤ 24)) = true from by simp; omega] at this
  have h1 := f_R1_IsSet t.init t.facts ho.i hf'.1 (by omega)
  have h2 := f_R1_IsSet t.goal t.facts ho.g hf'.1 (by omega)
  cases e1 : isSetB t.facts t.init with
  | false =>
    rw [e1] at h1
    refine Fn.step mixed k_R1_TaskFault ?_
    repeat' (first | refine i_len rfl ?_ | refine i_s rfl ?_ | refine i_lenm rfl rfl rfl ?_ | refine c_seq ?_ | refine c_cut0 ?_ | refine c_ops ?_ | refine i_nil ?_ | refine e_seq ?_ | refine e_block ?_ | refine c_block ?_ | refine c_skip ?_ | refine c_ret ?_ | refine c_exit ?_ | refine e_exit rfl ?_ | refine i_s0 rfl ?_ | refine c_leaf ?_ | refine i_gt rfl ?_ | refine i_gf rfl ?_ | refine i_gd rfl ?_ | refine c_t rfl ?_ | refine c_f rfl ?_ | refine i_conv rfl (by simp only [InR, List.length_map]; omega) ?_ | refine i_add rfl rfl (by simp only [InR, List.length_map]; omega) ?_ | refine i_sub rfl rfl (by simp only [InR, List.length_map]; omega) ?_ | refine i_ixm rfl rfl (by assumption) ?_ | refine i_iai rfl rfl (by omega) (by assumption) rfl ?_ | refine i_iam rfl rfl (by assumption) rfl ?_ | refine i_tk rfl rfl (by omega) ?_ | refine i_stb rfl ?_ | refine i_alloc rfl ?_ | refine i_box rfl rfl ?_ | refine i_nv rfl ?_ | refine c_node ?_ ?_ | refine i_g rfl (fun h => ?_) (fun h => ?_) | refine c_cond rfl (fun h => ?_) (fun h => ?_) | refine i_f rfl rfl (h0) rfl ?_ | refine i_f rfl rfl (h1) rfl ?_ | refine i_f rfl rfl (f_R1_At _ _) rfl ?_)
    all_goals first
      | exact e_ret ⟨rfl, _, rfl, congr_ft (sF2 hf e1)⟩
      | (exfalso; clear h0 h1 h2 ho; simp at *; omega)
  | true =>
  cases e2 : isSetB t.facts t.goal with
  | false =>
    rw [e1] at h1
    rw [e2] at h2
    refine Fn.step mixed k_R1_TaskFault ?_
    repeat' (first | refine i_len rfl ?_ | refine i_s rfl ?_ | refine i_lenm rfl rfl rfl ?_ | refine c_seq ?_ | refine c_cut0 ?_ | refine c_ops ?_ | refine i_nil ?_ | refine e_seq ?_ | refine e_block ?_ | refine c_block ?_ | refine c_skip ?_ | refine c_ret ?_ | refine c_exit ?_ | refine e_exit rfl ?_ | refine i_s0 rfl ?_ | refine c_leaf ?_ | refine i_gt rfl ?_ | refine i_gf rfl ?_ | refine i_gd rfl ?_ | refine c_t rfl ?_ | refine c_f rfl ?_ | refine i_conv rfl (by simp only [InR, List.length_map]; omega) ?_ | refine i_add rfl rfl (by simp only [InR, List.length_map]; omega) ?_ | refine i_sub rfl rfl (by simp only [InR, List.length_map]; omega) ?_ | refine i_ixm rfl rfl (by assumption) ?_ | refine i_iai rfl rfl (by omega) (by assumption) rfl ?_ | refine i_iam rfl rfl (by assumption) rfl ?_ | refine i_tk rfl rfl (by omega) ?_ | refine i_stb rfl ?_ | refine i_alloc rfl ?_ | refine i_box rfl rfl ?_ | refine i_nv rfl ?_ | refine c_node ?_ ?_ | refine i_g rfl (fun h => ?_) (fun h => ?_) | refine c_cond rfl (fun h => ?_) (fun h => ?_) | refine i_f rfl rfl (h0) rfl ?_ | refine i_f rfl rfl (h1) rfl ?_ | refine i_f rfl rfl (h2) rfl ?_ | refine i_f rfl rfl (f_R1_At _ _) rfl ?_)
    all_goals first
      | exact e_ret ⟨rfl, _, rfl, congr_ft (sF3 hf e1 e2)⟩
      | (exfalso; clear h0 h1 h2 ho; simp at *; omega)
  | true =>
  rw [e1] at h1
  rw [e2] at h2
  by_cases h4 : t.ops.length > 40
  · refine Fn.step mixed k_R1_TaskFault ?_
    repeat' (first | refine i_len rfl ?_ | refine i_s rfl ?_ | refine i_lenm rfl rfl rfl ?_ | refine c_seq ?_ | refine c_cut0 ?_ | refine c_ops ?_ | refine i_nil ?_ | refine e_seq ?_ | refine e_block ?_ | refine c_block ?_ | refine c_skip ?_ | refine c_ret ?_ | refine c_exit ?_ | refine e_exit rfl ?_ | refine i_s0 rfl ?_ | refine c_leaf ?_ | refine i_gt rfl ?_ | refine i_gf rfl ?_ | refine i_gd rfl ?_ | refine c_t rfl ?_ | refine c_f rfl ?_ | refine i_conv rfl (by simp only [InR, List.length_map]; omega) ?_ | refine i_add rfl rfl (by simp only [InR, List.length_map]; omega) ?_ | refine i_sub rfl rfl (by simp only [InR, List.length_map]; omega) ?_ | refine i_ixm rfl rfl (by assumption) ?_ | refine i_iai rfl rfl (by omega) (by assumption) rfl ?_ | refine i_iam rfl rfl (by assumption) rfl ?_ | refine i_tk rfl rfl (by omega) ?_ | refine i_stb rfl ?_ | refine i_alloc rfl ?_ | refine i_box rfl rfl ?_ | refine i_nv rfl ?_ | refine c_node ?_ ?_ | refine i_g rfl (fun h => ?_) (fun h => ?_) | refine c_cond rfl (fun h => ?_) (fun h => ?_) | refine i_f rfl rfl (h0) rfl ?_ | refine i_f rfl rfl (h1) rfl ?_ | refine i_f rfl rfl (h2) rfl ?_ | refine i_f rfl rfl (f_R1_At _ _) rfl ?_)
    all_goals first
      | exact e_ret ⟨rfl, _, rfl, congr_ft (sF4 hf e1 e2 h4)⟩
      | (exfalso; clear h0 h1 h2 ho; simp at *; omega)
  have hel := sF5 hf e1 e2 h4
  refine Fn.step mixed k_R1_TaskFault ?_
  repeat' (first | refine i_len rfl ?_ | refine i_s rfl ?_ | refine i_lenm rfl rfl rfl ?_ | refine c_seq ?_ | refine c_cut0 ?_ | refine c_ops ?_ | refine i_nil ?_ | refine e_seq ?_ | refine e_block ?_ | refine c_block ?_ | refine c_skip ?_ | refine c_ret ?_ | refine c_exit ?_ | refine e_exit rfl ?_ | refine i_s0 rfl ?_ | refine c_leaf ?_ | refine i_gt rfl ?_ | refine i_gf rfl ?_ | refine i_gd rfl ?_ | refine c_t rfl ?_ | refine c_f rfl ?_ | refine i_conv rfl (by simp only [InR, List.length_map]; omega) ?_ | refine i_add rfl rfl (by simp only [InR, List.length_map]; omega) ?_ | refine i_sub rfl rfl (by simp only [InR, List.length_map]; omega) ?_ | refine i_ixm rfl rfl (by assumption) ?_ | refine i_iai rfl rfl (by omega) (by assumption) rfl ?_ | refine i_iam rfl rfl (by assumption) rfl ?_ | refine i_tk rfl rfl (by omega) ?_ | refine i_stb rfl ?_ | refine i_alloc rfl ?_ | refine i_box rfl rfl ?_ | refine i_nv rfl ?_ | refine c_node ?_ ?_ | refine i_g rfl (fun h => ?_) (fun h => ?_) | refine c_cond rfl (fun h => ?_) (fun h => ?_) | refine i_f rfl rfl (h0) rfl ?_ | refine i_f rfl rfl (h1) rfl ?_ | refine i_f rfl rfl (h2) rfl ?_ | refine i_f rfl rfl (f_R1_At _ _) rfl ?_)
  all_goals first | (exfalso; clear h0 h1 h2 ho hel; simp at *; omega) | skip
  refine c_for t.ops.length (fun k => [(1, .bptr 1600068 0), (2, .bptr 1600130 0), (3, .int .i64 k)]) (fun _ => [(1600068, .box (skV t)), (1600130, .box (ftV okF))]) (fun k => ∀ j, j < k → sopBad t.facts t.ops j = none) all_zero ⟨by repeat (first | exact trivial | refine ⟨rfl, ?_⟩), by repeat (first | exact trivial | refine ⟨rfl, ?_⟩), rfl⟩ fun k hk hi => ?_
  clear h0 h1 h2
  repeat (first | refine i_len rfl ?_ | refine i_s rfl ?_ | refine i_lenm rfl rfl rfl ?_ | refine c_seq ?_ | refine c_cut0 ?_ | refine c_ops ?_ | refine i_nil ?_ | refine e_seq ?_ | refine e_block ?_ | refine c_block ?_ | refine c_skip ?_ | refine c_ret ?_ | refine c_exit ?_ | refine e_exit rfl ?_ | refine i_s0 rfl ?_ | refine c_leaf ?_ | refine i_gt rfl ?_ | refine i_gf rfl ?_ | refine i_gd rfl ?_ | refine c_t rfl ?_ | refine c_f rfl ?_ | refine i_conv rfl (by simp only [InR, List.length_map]; omega) ?_ | refine i_add rfl rfl (by simp only [InR, List.length_map]; omega) ?_ | refine i_sub rfl rfl (by simp only [InR, List.length_map]; omega) ?_ | refine i_ixm rfl rfl (by assumption) ?_ | refine i_iai rfl rfl (by omega) (by assumption) rfl ?_ | refine i_iam rfl rfl (by assumption) rfl ?_ | refine i_tk rfl rfl (by omega) ?_ | refine i_stb rfl ?_ | refine i_alloc rfl ?_ | refine i_box rfl rfl ?_ | refine i_nv rfl ?_)
  refine c_cond rfl (fun h => ?_) (fun h => ?_)
  · have hlt : k < t.ops.length := by simpa using h
    obtain ⟨o, hx⟩ := get_some hlt
    obtain ⟨l1, l2, l3⟩ := ho.e o (mem_get hx)
    have hb := sopBad_eq (n := t.facts) hx
    have g1 := f_R1_IsSet o.pre t.facts l1 hf'.1 (by omega)
    have g2 := f_R1_IsSet o.add t.facts l2 hf'.1 (by omega)
    have g3 := f_R1_IsSet o.del t.facts l3 hf'.1 (by omega)
    have g4 := f_R1_Disjoint o.add o.del l2 l3
    clear h ho
    have bad : opCode t.facts o = 5 → sFault t = ⟨5, k⟩ := fun h => sF_hit hel hi hlt (by rw [hb, h]; rfl)
    cases q1 : isSetB t.facts o.pre with
    | false =>
      rw [q1] at g1
      repeat' (first | refine i_len rfl ?_ | refine i_s rfl ?_ | refine i_lenm rfl rfl rfl ?_ | refine c_seq ?_ | refine c_cut0 ?_ | refine c_ops ?_ | refine i_nil ?_ | refine e_seq ?_ | refine e_block ?_ | refine c_block ?_ | refine c_skip ?_ | refine c_ret ?_ | refine c_exit ?_ | refine e_exit rfl ?_ | refine i_s0 rfl ?_ | refine c_leaf ?_ | refine i_gt rfl ?_ | refine i_gf rfl ?_ | refine i_gd rfl ?_ | refine c_t rfl ?_ | refine c_f rfl ?_ | refine i_conv rfl (by simp only [InR, List.length_map]; omega) ?_ | refine i_add rfl rfl (by simp only [InR, List.length_map]; omega) ?_ | refine i_sub rfl rfl (by simp only [InR, List.length_map]; omega) ?_ | refine i_ixm rfl rfl (by assumption) ?_ | refine i_iai rfl rfl (by omega) (by assumption) rfl ?_ | refine i_iam rfl rfl (by assumption) rfl ?_ | refine i_tk rfl rfl (by omega) ?_ | refine i_stb rfl ?_ | refine i_alloc rfl ?_ | refine i_box rfl rfl ?_ | refine i_nv rfl ?_ | refine c_node ?_ ?_ | refine i_g rfl (fun h => ?_) (fun h => ?_) | refine c_cond rfl (fun h => ?_) (fun h => ?_) | refine i_f rfl rfl (g1) rfl ?_ | refine i_f rfl rfl (f_R1_At _ _) rfl ?_)
      exact e_ret ⟨rfl, _, rfl, congr_ft (bad (opc5 (.inl q1)))⟩
    | true =>
    rw [q1] at g1
    cases q2 : isSetB t.facts o.add with
    | false =>
      rw [q2] at g2
      repeat' (first | refine i_len rfl ?_ | refine i_s rfl ?_ | refine i_lenm rfl rfl rfl ?_ | refine c_seq ?_ | refine c_cut0 ?_ | refine c_ops ?_ | refine i_nil ?_ | refine e_seq ?_ | refine e_block ?_ | refine c_block ?_ | refine c_skip ?_ | refine c_ret ?_ | refine c_exit ?_ | refine e_exit rfl ?_ | refine i_s0 rfl ?_ | refine c_leaf ?_ | refine i_gt rfl ?_ | refine i_gf rfl ?_ | refine i_gd rfl ?_ | refine c_t rfl ?_ | refine c_f rfl ?_ | refine i_conv rfl (by simp only [InR, List.length_map]; omega) ?_ | refine i_add rfl rfl (by simp only [InR, List.length_map]; omega) ?_ | refine i_sub rfl rfl (by simp only [InR, List.length_map]; omega) ?_ | refine i_ixm rfl rfl (by assumption) ?_ | refine i_iai rfl rfl (by omega) (by assumption) rfl ?_ | refine i_iam rfl rfl (by assumption) rfl ?_ | refine i_tk rfl rfl (by omega) ?_ | refine i_stb rfl ?_ | refine i_alloc rfl ?_ | refine i_box rfl rfl ?_ | refine i_nv rfl ?_ | refine c_node ?_ ?_ | refine i_g rfl (fun h => ?_) (fun h => ?_) | refine c_cond rfl (fun h => ?_) (fun h => ?_) | refine i_f rfl rfl (g1) rfl ?_ | refine i_f rfl rfl (g2) rfl ?_ | refine i_f rfl rfl (f_R1_At _ _) rfl ?_)
      exact e_ret ⟨rfl, _, rfl, congr_ft (bad (opc5 (.inr (.inl q2))))⟩
    | true =>
    rw [q2] at g2
    cases q3 : isSetB t.facts o.del with
    | false =>
      rw [q3] at g3
      repeat' (first | refine i_len rfl ?_ | refine i_s rfl ?_ | refine i_lenm rfl rfl rfl ?_ | refine c_seq ?_ | refine c_cut0 ?_ | refine c_ops ?_ | refine i_nil ?_ | refine e_seq ?_ | refine e_block ?_ | refine c_block ?_ | refine c_skip ?_ | refine c_ret ?_ | refine c_exit ?_ | refine e_exit rfl ?_ | refine i_s0 rfl ?_ | refine c_leaf ?_ | refine i_gt rfl ?_ | refine i_gf rfl ?_ | refine i_gd rfl ?_ | refine c_t rfl ?_ | refine c_f rfl ?_ | refine i_conv rfl (by simp only [InR, List.length_map]; omega) ?_ | refine i_add rfl rfl (by simp only [InR, List.length_map]; omega) ?_ | refine i_sub rfl rfl (by simp only [InR, List.length_map]; omega) ?_ | refine i_ixm rfl rfl (by assumption) ?_ | refine i_iai rfl rfl (by omega) (by assumption) rfl ?_ | refine i_iam rfl rfl (by assumption) rfl ?_ | refine i_tk rfl rfl (by omega) ?_ | refine i_stb rfl ?_ | refine i_alloc rfl ?_ | refine i_box rfl rfl ?_ | refine i_nv rfl ?_ | refine c_node ?_ ?_ | refine i_g rfl (fun h => ?_) (fun h => ?_) | refine c_cond rfl (fun h => ?_) (fun h => ?_) | refine i_f rfl rfl (g1) rfl ?_ | refine i_f rfl rfl (g2) rfl ?_ | refine i_f rfl rfl (g3) rfl ?_ | refine i_f rfl rfl (f_R1_At _ _) rfl ?_)
      exact e_ret ⟨rfl, _, rfl, congr_ft (bad (opc5 (.inr (.inr (.inl q3)))))⟩
    | true =>
    rw [q3] at g3
    cases q4 : disjB o.add o.del with
    | false =>
      rw [q4] at g4
      repeat' (first | refine i_len rfl ?_ | refine i_s rfl ?_ | refine i_lenm rfl rfl rfl ?_ | refine c_seq ?_ | refine c_cut0 ?_ | refine c_ops ?_ | refine i_nil ?_ | refine e_seq ?_ | refine e_block ?_ | refine c_block ?_ | refine c_skip ?_ | refine c_ret ?_ | refine c_exit ?_ | refine e_exit rfl ?_ | refine i_s0 rfl ?_ | refine c_leaf ?_ | refine i_gt rfl ?_ | refine i_gf rfl ?_ | refine i_gd rfl ?_ | refine c_t rfl ?_ | refine c_f rfl ?_ | refine i_conv rfl (by simp only [InR, List.length_map]; omega) ?_ | refine i_add rfl rfl (by simp only [InR, List.length_map]; omega) ?_ | refine i_sub rfl rfl (by simp only [InR, List.length_map]; omega) ?_ | refine i_ixm rfl rfl (by assumption) ?_ | refine i_iai rfl rfl (by omega) (by assumption) rfl ?_ | refine i_iam rfl rfl (by assumption) rfl ?_ | refine i_tk rfl rfl (by omega) ?_ | refine i_stb rfl ?_ | refine i_alloc rfl ?_ | refine i_box rfl rfl ?_ | refine i_nv rfl ?_ | refine c_node ?_ ?_ | refine i_g rfl (fun h => ?_) (fun h => ?_) | refine c_cond rfl (fun h => ?_) (fun h => ?_) | refine i_f rfl rfl (g1) rfl ?_ | refine i_f rfl rfl (g2) rfl ?_ | refine i_f rfl rfl (g3) rfl ?_ | refine i_f rfl rfl (g4) rfl ?_ | refine i_f rfl rfl (f_R1_At _ _) rfl ?_)
      exact e_ret ⟨rfl, _, rfl, congr_ft (bad (opc5 (.inr (.inr (.inr q4)))))⟩
    | true =>
    rw [q4] at g4
    rw [opc q1 q2 q3 q4] at hb
    clear bad
    have g5 := f_R1_In o.cost 0 100
    by_cases hc : o.cost < 0 ∨ o.cost > 100
    · rw [if_pos hc] at hb
      rw [show (decide (0 ≤ o.cost) && decide (o.cost ≤ 100)) = false from by simp; omega] at g5
      repeat' (first | refine i_len rfl ?_ | refine i_s rfl ?_ | refine i_lenm rfl rfl rfl ?_ | refine c_seq ?_ | refine c_cut0 ?_ | refine c_ops ?_ | refine i_nil ?_ | refine e_seq ?_ | refine e_block ?_ | refine c_block ?_ | refine c_skip ?_ | refine c_ret ?_ | refine c_exit ?_ | refine e_exit rfl ?_ | refine i_s0 rfl ?_ | refine c_leaf ?_ | refine i_gt rfl ?_ | refine i_gf rfl ?_ | refine i_gd rfl ?_ | refine c_t rfl ?_ | refine c_f rfl ?_ | refine i_conv rfl (by simp only [InR, List.length_map]; omega) ?_ | refine i_add rfl rfl (by simp only [InR, List.length_map]; omega) ?_ | refine i_sub rfl rfl (by simp only [InR, List.length_map]; omega) ?_ | refine i_ixm rfl rfl (by assumption) ?_ | refine i_iai rfl rfl (by omega) (by assumption) rfl ?_ | refine i_iam rfl rfl (by assumption) rfl ?_ | refine i_tk rfl rfl (by omega) ?_ | refine i_stb rfl ?_ | refine i_alloc rfl ?_ | refine i_box rfl rfl ?_ | refine i_nv rfl ?_ | refine c_node ?_ ?_ | refine i_g rfl (fun h => ?_) (fun h => ?_) | refine c_cond rfl (fun h => ?_) (fun h => ?_) | refine i_f rfl rfl (g1) rfl ?_ | refine i_f rfl rfl (g2) rfl ?_ | refine i_f rfl rfl (g3) rfl ?_ | refine i_f rfl rfl (g4) rfl ?_ | refine i_f rfl rfl (g5) rfl ?_ | refine i_f rfl rfl (f_R1_At _ _) rfl ?_)
      exact e_ret ⟨rfl, _, rfl, congr_ft (sF_hit hel hi hlt hb)⟩
    · rw [if_neg hc] at hb
      rw [show (decide (0 ≤ o.cost) && decide (o.cost ≤ 100)) = true from by simp; omega] at g5
      repeat' (first | refine i_len rfl ?_ | refine i_s rfl ?_ | refine i_lenm rfl rfl rfl ?_ | refine c_seq ?_ | refine c_cut0 ?_ | refine c_ops ?_ | refine i_nil ?_ | refine e_seq ?_ | refine e_block ?_ | refine c_block ?_ | refine c_skip ?_ | refine c_ret ?_ | refine c_exit ?_ | refine e_exit rfl ?_ | refine i_s0 rfl ?_ | refine c_leaf ?_ | refine i_gt rfl ?_ | refine i_gf rfl ?_ | refine i_gd rfl ?_ | refine c_t rfl ?_ | refine c_f rfl ?_ | refine i_conv rfl (by simp only [InR, List.length_map]; omega) ?_ | refine i_add rfl rfl (by simp only [InR, List.length_map]; omega) ?_ | refine i_sub rfl rfl (by simp only [InR, List.length_map]; omega) ?_ | refine i_ixm rfl rfl (by assumption) ?_ | refine i_iai rfl rfl (by omega) (by assumption) rfl ?_ | refine i_iam rfl rfl (by assumption) rfl ?_ | refine i_tk rfl rfl (by omega) ?_ | refine i_stb rfl ?_ | refine i_alloc rfl ?_ | refine i_box rfl rfl ?_ | refine i_nv rfl ?_ | refine c_node ?_ ?_ | refine i_g rfl (fun h => ?_) (fun h => ?_) | refine c_cond rfl (fun h => ?_) (fun h => ?_) | refine i_f rfl rfl (g1) rfl ?_ | refine i_f rfl rfl (g2) rfl ?_ | refine i_f rfl rfl (g3) rfl ?_ | refine i_f rfl rfl (g4) rfl ?_ | refine i_f rfl rfl (g5) rfl ?_ | refine i_f rfl rfl (f_R1_At _ _) rfl ?_)
      exact e_for hlt (all_succ hi hb) ⟨by repeat (first | exact trivial | refine ⟨rfl, ?_⟩), by repeat (first | exact trivial | refine ⟨rfl, ?_⟩), rfl⟩
  · have hge : ¬ k < t.ops.length := by simpa using h
    repeat' (first | refine i_len rfl ?_ | refine i_s rfl ?_ | refine i_lenm rfl rfl rfl ?_ | refine c_seq ?_ | refine c_cut0 ?_ | refine c_ops ?_ | refine i_nil ?_ | refine e_seq ?_ | refine e_block ?_ | refine c_block ?_ | refine c_skip ?_ | refine c_ret ?_ | refine c_exit ?_ | refine e_exit rfl ?_ | refine i_s0 rfl ?_ | refine c_leaf ?_ | refine i_gt rfl ?_ | refine i_gf rfl ?_ | refine i_gd rfl ?_ | refine c_t rfl ?_ | refine c_f rfl ?_ | refine i_conv rfl (by simp only [InR, List.length_map]; omega) ?_ | refine i_add rfl rfl (by simp only [InR, List.length_map]; omega) ?_ | refine i_sub rfl rfl (by simp only [InR, List.length_map]; omega) ?_ | refine i_ixm rfl rfl (by assumption) ?_ | refine i_iai rfl rfl (by omega) (by assumption) rfl ?_ | refine i_iam rfl rfl (by assumption) rfl ?_ | refine i_tk rfl rfl (by omega) ?_ | refine i_stb rfl ?_ | refine i_alloc rfl ?_ | refine i_box rfl rfl ?_ | refine i_nv rfl ?_ | refine c_node ?_ ?_ | refine i_g rfl (fun h => ?_) (fun h => ?_) | refine c_cond rfl (fun h => ?_) (fun h => ?_))
    exact e_ret ⟨rfl, _, rfl, congr_ft (sF_none hel fun j hj => hi j (by omega))⟩
end Hm
end
