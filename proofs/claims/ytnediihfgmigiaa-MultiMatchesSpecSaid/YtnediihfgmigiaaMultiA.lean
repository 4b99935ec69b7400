/- The program of this seat, and the stepping layer. -/
import Derived.Test.YtnediihfgmigiaaCoreC
import Derived.Test.YtnediihfgmigiaaProg
import Derived.ProofKit
section
/- The program of this seat, and the stepping layer. -/
namespace Hm
open Go
theorem mixed : Go.Proofs.Try.prog.follows .mixedOrders = true := by kernel_rfl
end Hm
end

section
/- Faults, in plain terms. No program in sight. -/
namespace Hm
open Go
structure Flt where
  code : Int
  index : Int
instance : DecidableEq Flt := fun a b => if h : a.code = b.code ∧ a.index = b.index then isTrue (by cases a; cases b; simp only at h; rw [h.1, h.2]) else isFalse (by rintro rfl; exact h ⟨rfl, rfl⟩)
def ftV (f : Flt) : V := .agg [.int .i64 f.code, .int .i64 f.index]
def okF : Flt := ⟨0, 0⟩
def i64V (n : Int) : V := .int .i64 n
theorem congr_ft {f : Flt} {c i : Int} (h : f = ⟨c, i⟩) : ftV f = .agg [.int .i64 c, .int .i64 i] := by rw [h]; rfl
theorem flt_eta (f : Flt) : (⟨f.code, f.index⟩ : Flt) = f := rfl
theorem ft_ok_iff (f : Flt) : (f.code == 0 && (f.index == 0 && true)) = decide (f = okF) := by
  cases f with
  | mk c i =>
    simp only [okF, Flt.mk.injEq, Bool.and_true]
    by_cases h1 : c = 0 <;> by_cases h2 : i = 0 <;> simp [h1, h2]
theorem ne_ok {f : Flt} (h : (!(f.code == 0 && (f.index == 0 && true))) = true) : f ≠ okF := by
  rw [ft_ok_iff] at h; simpa using h
theorem eq_ok {f : Flt} (h : (!(f.code == 0 && (f.index == 0 && true))) = false) : f = okF := by
  rw [ft_ok_iff] at h; simpa using h
theorem eq_ok' {f : Flt} (h : (f.code == 0 && (f.index == 0 && true)) = true) : f = okF := by
  rw [ft_ok_iff] at h; simpa using h
theorem ne_ok' {f : Flt} (h : (f.code == 0 && (f.index == 0 && true)) = false) : f ≠ okF := by
  rw [ft_ok_iff] at h; simpa using h
def fidx {α : Type} (p : α → Bool) (l : List α) : Int := match l.findIdx? p with
  | some i => i
  | none => -1
theorem fidx_hit {α : Type} {p : α → Bool} {l : List α} {k : Nat} {c : α} (h : ∀ j, j < k → ∀ c, l[j]? = some c → p c = false) (hc : l[k]? = some c) (hp : p c = true) : fidx p l = k := by
  have : l.findIdx? p = some k := by
    rw [List.findIdx?_eq_some_iff_getElem]
    have hk := get_lt hc
    refine ⟨hk, ?_, fun j hj => ?_⟩
    · rw [List.getElem?_eq_getElem hk] at hc; injection hc with hc; rw [hc]; exact hp
    · simp [h j hj _ (List.getElem?_eq_getElem (by omega))]
  simp [fidx, this]
theorem fidx_none {α : Type} {p : α → Bool} {l : List α} (h : ∀ j, j < l.length → ∀ c, l[j]? = some c → p c = false) : fidx p l = -1 := by
  have : l.findIdx? p = none := by
    rw [List.findIdx?_eq_none_iff]
    intro x hx
    obtain ⟨j, hj, e⟩ := List.getElem_of_mem hx
    exact h j hj x (by rw [← e]; exact List.getElem?_eq_getElem hj)
  simp [fidx, this]
theorem fidx_any {α : Type} (p : α → Bool) (l : List α) : decide (fidx p l ≥ 0) = l.any p := by
  unfold fidx
  cases h : l.findIdx? p with
  | none =>
    rw [List.findIdx?_eq_none_iff] at h
    have : l.any p = false := by
      rw [Bool.eq_false_iff]
      intro e
      obtain ⟨x, h1, h2⟩ := List.any_eq_true.1 e
      rw [h x h1] at h2
      cases h2
    rw [this]; rfl
  | some k =>
    rw [List.findIdx?_eq_some_iff_getElem] at h
    obtain ⟨h1, h2, _⟩ := h
    have : l.any p = true := List.any_eq_true.2 ⟨_, List.getElem_mem h1, h2⟩
    rw [this]
    simp
end Hm
end

section
/- Contracts: small functions of the references. -/
namespace Hm
open Go
set_option maxRecDepth 100000
set_option maxHeartbeats 1000000
set_option linter.unusedSimpArgs false
set_option linter.unusedVariables false
def c_R1_In : Cmd :=
  (.seq
   (.ops [
   .op (some 6) none (.mov (.c (.bool false)))])
   (.cut
   (.seq
   (.ops [
   .op (some 7) none (.mov (.t 0)),
   .op (some 8) none (.mov (.t 1)),
   .op (some 9) none (.bin .geq false [] (.t 7) (.t 8)),
   .op (some 10) none (.mov (.t 9)),
   .op (some 11) (some (10, true)) (.mov (.t 0)),
   .op (some 12) (some (10, true)) (.mov (.t 2)),
   .op (some 13) (some (10, true)) (.bin .leq false [] (.t 11) (.t 12)),
   .op (some 14) none (.pick (.t 10) (.t 13) (.c (.bool false))),
   .op (some 6) none (.mov (.t 14))])
   .ret)))
def r_R1_In : List RVar := [.tmp 6]
def n_R1_In : Nat := 15
theorem k_R1_In : chkFn Go.Proofs.Try.prog 27 n_R1_In r_R1_In c_R1_In = true := by kernel_rfl
theorem f_R1_In (x lo hi : Int) : Fc Go.Proofs.Try.prog 27 [.int .i64 x, .int .i64 lo, .int .i64 hi] (.bool (decide (lo ≤ x) && decide (x ≤ hi))) := by
  refine Fn.step mixed k_R1_In ?_
  repeat' (first | refine i_len rfl ?_ | refine i_s rfl ?_ | refine c_seq ?_ | refine c_cut0 ?_ | refine c_ops ?_ | refine i_nil ?_ | refine e_seq ?_ | refine e_block ?_ | refine c_block ?_ | refine c_skip ?_ | refine c_ret ?_ | refine c_exit ?_ | refine e_exit rfl ?_ | refine i_s0 rfl ?_ | refine c_leaf ?_ | refine i_gt rfl ?_ | refine i_gf rfl ?_ | refine i_gd rfl ?_ | refine c_t rfl ?_ | refine c_f rfl ?_ | refine i_conv rfl (by simp only [InR, List.length_map]; omega) ?_ | refine i_add rfl rfl (by simp only [InR, List.length_map]; omega) ?_ | refine i_sub rfl rfl (by simp only [InR, List.length_map]; omega) ?_ | refine i_ixm rfl rfl (by assumption) ?_ | refine i_iai rfl rfl (by omega) (by assumption) rfl ?_ | refine i_iam rfl rfl (by assumption) rfl ?_ | refine i_tk rfl rfl (by omega) ?_ | refine i_stb rfl ?_ | refine i_alloc rfl ?_ | refine i_box rfl rfl ?_ | refine i_nv rfl ?_ | refine c_node ?_ ?_ | refine i_g rfl (fun h => ?_) (fun h => ?_) | refine c_cond rfl (fun h => ?_) (fun h => ?_))
  all_goals refine e_ret ⟨rfl, _, rfl, congrArg V.bool ?_⟩
  · have := of_decide_eq_true h; simp; omega
  · have := of_decide_eq_false h; simp; omega
def c_R1_At : Cmd :=
  (.seq
   (.ops [
   .op (some 4) none (.alloc 1472258 (.agg [.int .i64 (0), .int .i64 (0)]))])
   (.cut
   (.seq
   (.ops [
   .op (some 5) none (.mov (.t 0)),
   .op (some 6) none (.mov (.t 1)),
   .op (some 7) none (.build [.int .i64 (0), .int .i64 (0)] [(0, 1, .t 5), (1, 1, .t 6)]),
   .op none none (.store 2 (.t 4) (.t 7))])
   .ret)))
def r_R1_At : List RVar := [.cell true 2 4]
def n_R1_At : Nat := 8
theorem k_R1_At : chkFn Go.Proofs.Try.prog 23 n_R1_At r_R1_At c_R1_At = true := by kernel_rfl
theorem f_R1_At (c i : Int) : Fc Go.Proofs.Try.prog 23 [.int .i64 c, .int .i64 i] (.agg [.int .i64 c, .int .i64 i]) := by
  refine Fn.step mixed k_R1_At ?_
  repeat' (first | refine i_len rfl ?_ | refine i_s rfl ?_ | refine c_seq ?_ | refine c_cut0 ?_ | refine c_ops ?_ | refine i_nil ?_ | refine e_seq ?_ | refine e_block ?_ | refine c_block ?_ | refine c_skip ?_ | refine c_ret ?_ | refine c_exit ?_ | refine e_exit rfl ?_ | refine i_s0 rfl ?_ | refine c_leaf ?_ | refine i_gt rfl ?_ | refine i_gf rfl ?_ | refine i_gd rfl ?_ | refine c_t rfl ?_ | refine c_f rfl ?_ | refine i_conv rfl (by simp only [InR, List.length_map]; omega) ?_ | refine i_add rfl rfl (by simp only [InR, List.length_map]; omega) ?_ | refine i_sub rfl rfl (by simp only [InR, List.length_map]; omega) ?_ | refine i_ixm rfl rfl (by assumption) ?_ | refine i_iai rfl rfl (by omega) (by assumption) rfl ?_ | refine i_iam rfl rfl (by assumption) rfl ?_ | refine i_tk rfl rfl (by omega) ?_ | refine i_stb rfl ?_ | refine i_alloc rfl ?_ | refine i_box rfl rfl ?_ | refine i_nv rfl ?_ | refine c_node ?_ ?_ | refine i_g rfl (fun h => ?_) (fun h => ?_) | refine c_cond rfl (fun h => ?_) (fun h => ?_))
  exact e_ret ⟨rfl, _, rfl, rfl⟩
def c_R1_Has : Cmd :=
  (.seq
   (.ops [
   .op (some 4) none (.mov (.c (.bool false)))])
   (.cut
   (.seq
   (.seq
   (.ops [
   .op (some 5) none (.mov (.c (.int .i64 (0))))])
   (.cut
   (.block 0
   (.loop
   (.seq
   (.seq
   (.ops [
   .op (some 6) none (.mov (.t 5)),
   .op (some 7) none (.mov (.t 0)),
   .op (some 8) none (.len false (.t 7)),
   .op (some 9) none (.bin .lss false [] (.t 6) (.t 8))])
   (.cut
   (.cond (.t 9)
   .skip
   (.exit 0))))
   (.cut
   (.seq
   (.block 1
   (.seq
   (.ops [
   .op (some 12) none (.mov (.t 0)),
   .op (some 13) none (.mov (.t 5)),
   .op (some 14) none (.iaddr 1 (.t 12) (.t 13)),
   .op (some 15) none (.load false 1 (.t 14)),
   .op (some 16) none (.mov (.t 1)),
   .op (some 17) none (.bin .eql false [.i] (.t 15) (.t 16))])
   (.cut
   (.cond (.t 17)
   (.seq
   (.ops [
   .op (some 4) none (.mov (.c (.bool true)))])
   .ret)
   .skip))))
   (.cut
   (.ops [
   .op (some 10) none (.mov (.t 5)),
   .op (some 11) none (.bin .add false [] (.t 10) (.c (.int .i64 (1)))),
   .op (some 5) none (.mov (.t 11))])))))))))
   (.cut
   (.seq
   (.ops [
   .op (some 4) none (.mov (.c (.bool false)))])
   .ret)))))
def r_R1_Has : List RVar := [.tmp 4]
def n_R1_Has : Nat := 18
theorem k_R1_Has : chkFn Go.Proofs.Try.prog 35 n_R1_Has r_R1_Has c_R1_Has = true := by kernel_rfl
theorem f_R1_Has (xs : List Int) (n : Int) (hl : xs.length ≤ 140737488355328) : Fc Go.Proofs.Try.prog 35 [.sl .p (xs.map i64V), .int .i64 n] (.bool (decide (n ∈ xs))) := by
  refine Fn.step mixed k_R1_Has ?_
  repeat (first | refine i_len rfl ?_ | refine i_s rfl ?_ | refine c_seq ?_ | refine c_cut0 ?_ | refine c_ops ?_ | refine i_nil ?_ | refine e_seq ?_ | refine e_block ?_ | refine c_block ?_ | refine c_skip ?_ | refine c_ret ?_ | refine c_exit ?_ | refine e_exit rfl ?_ | refine i_s0 rfl ?_ | refine c_leaf ?_ | refine i_gt rfl ?_ | refine i_gf rfl ?_ | refine i_gd rfl ?_ | refine c_t rfl ?_ | refine c_f rfl ?_ | refine i_conv rfl (by simp only [InR, List.length_map]; omega) ?_ | refine i_add rfl rfl (by simp only [InR, List.length_map]; omega) ?_ | refine i_sub rfl rfl (by simp only [InR, List.length_map]; omega) ?_ | refine i_ixm rfl rfl (by assumption) ?_ | refine i_iai rfl rfl (by omega) (by assumption) rfl ?_ | refine i_iam rfl rfl (by assumption) rfl ?_ | refine i_tk rfl rfl (by omega) ?_ | refine i_stb rfl ?_ | refine i_alloc rfl ?_ | refine i_box rfl rfl ?_ | refine i_nv rfl ?_)
  refine c_for xs.length (fun k => [(0, .sl .p (xs.map i64V)), (1, .int .i64 n), (5, .int .i64 k)]) (fun _ => []) (fun k => n ∉ xs.take k) (by simp) ⟨by repeat (first | exact trivial | refine ⟨rfl, ?_⟩), by repeat (first | exact trivial | refine ⟨rfl, ?_⟩), rfl⟩ fun k hk hi => ?_
  repeat (first | refine i_len rfl ?_ | refine i_s rfl ?_ | refine c_seq ?_ | refine c_cut0 ?_ | refine c_ops ?_ | refine i_nil ?_ | refine e_seq ?_ | refine e_block ?_ | refine c_block ?_ | refine c_skip ?_ | refine c_ret ?_ | refine c_exit ?_ | refine e_exit rfl ?_ | refine i_s0 rfl ?_ | refine c_leaf ?_ | refine i_gt rfl ?_ | refine i_gf rfl ?_ | refine i_gd rfl ?_ | refine c_t rfl ?_ | refine c_f rfl ?_ | refine i_conv rfl (by simp only [InR, List.length_map]; omega) ?_ | refine i_add rfl rfl (by simp only [InR, List.length_map]; omega) ?_ | refine i_sub rfl rfl (by simp only [InR, List.length_map]; omega) ?_ | refine i_ixm rfl rfl (by assumption) ?_ | refine i_iai rfl rfl (by omega) (by assumption) rfl ?_ | refine i_iam rfl rfl (by assumption) rfl ?_ | refine i_tk rfl rfl (by omega) ?_ | refine i_stb rfl ?_ | refine i_alloc rfl ?_ | refine i_box rfl rfl ?_ | refine i_nv rfl ?_)
  refine c_cond rfl (fun h => ?_) (fun h => ?_)
  · have hlt : k < xs.length := by simpa using h
    obtain ⟨c, hc⟩ := get_some hlt
    repeat' (first | refine i_len rfl ?_ | refine i_s rfl ?_ | refine c_seq ?_ | refine c_cut0 ?_ | refine c_ops ?_ | refine i_nil ?_ | refine e_seq ?_ | refine e_block ?_ | refine c_block ?_ | refine c_skip ?_ | refine c_ret ?_ | refine c_exit ?_ | refine e_exit rfl ?_ | refine i_s0 rfl ?_ | refine c_leaf ?_ | refine i_gt rfl ?_ | refine i_gf rfl ?_ | refine i_gd rfl ?_ | refine c_t rfl ?_ | refine c_f rfl ?_ | refine i_conv rfl (by simp only [InR, List.length_map]; omega) ?_ | refine i_add rfl rfl (by simp only [InR, List.length_map]; omega) ?_ | refine i_sub rfl rfl (by simp only [InR, List.length_map]; omega) ?_ | refine i_ixm rfl rfl (by assumption) ?_ | refine i_iai rfl rfl (by omega) (by assumption) rfl ?_ | refine i_iam rfl rfl (by assumption) rfl ?_ | refine i_tk rfl rfl (by omega) ?_ | refine i_stb rfl ?_ | refine i_alloc rfl ?_ | refine i_box rfl rfl ?_ | refine i_nv rfl ?_ | refine c_node ?_ ?_ | refine i_g rfl (fun h => ?_) (fun h => ?_) | refine c_cond rfl (fun h => ?_) (fun h => ?_))
    · refine e_ret ⟨rfl, _, rfl, congrArg V.bool ?_⟩
      have e : c = n := by simpa using h
      exact decide_eq_true (e ▸ mem_get hc)
    · refine e_for hlt ?_ ⟨by repeat (first | exact trivial | refine ⟨rfl, ?_⟩), by repeat (first | exact trivial | refine ⟨rfl, ?_⟩), rfl⟩
      have e : c ≠ n := by simpa using h
      rw [take_succ_get hc, List.mem_append]
      simp [hi, Ne.symm e]
  · have hge : ¬ k < xs.length := by simpa using h
    rw [List.take_of_length_le (by omega)] at hi
    repeat' (first | refine i_len rfl ?_ | refine i_s rfl ?_ | refine c_seq ?_ | refine c_cut0 ?_ | refine c_ops ?_ | refine i_nil ?_ | refine e_seq ?_ | refine e_block ?_ | refine c_block ?_ | refine c_skip ?_ | refine c_ret ?_ | refine c_exit ?_ | refine e_exit rfl ?_ | refine i_s0 rfl ?_ | refine c_leaf ?_ | refine i_gt rfl ?_ | refine i_gf rfl ?_ | refine i_gd rfl ?_ | refine c_t rfl ?_ | refine c_f rfl ?_ | refine i_conv rfl (by simp only [InR, List.length_map]; omega) ?_ | refine i_add rfl rfl (by simp only [InR, List.length_map]; omega) ?_ | refine i_sub rfl rfl (by simp only [InR, List.length_map]; omega) ?_ | refine i_ixm rfl rfl (by assumption) ?_ | refine i_iai rfl rfl (by omega) (by assumption) rfl ?_ | refine i_iam rfl rfl (by assumption) rfl ?_ | refine i_tk rfl rfl (by omega) ?_ | refine i_stb rfl ?_ | refine i_alloc rfl ?_ | refine i_box rfl rfl ?_ | refine i_nv rfl ?_ | refine c_node ?_ ?_ | refine i_g rfl (fun h => ?_) (fun h => ?_) | refine c_cond rfl (fun h => ?_) (fun h => ?_))
    exact e_ret ⟨rfl, _, rfl, congrArg V.bool (decide_eq_false hi)⟩
def c_R1_Ints : Cmd :=
  (.seq
   (.ops [
   .op (some 4) none (.mov (.c (.bool false)))])
   (.cut
   (.seq
   (.seq
   (.ops [
   .op (some 6) none (.mov (.t 0)),
   .op (some 7) none (.len false (.t 6)),
   .op (some 8) none (.mov (.t 1)),
   .op (some 9) none (.len false (.t 8)),
   .op (some 10) none (.bin .neq false [.i] (.t 7) (.t 9))])
   (.cut
   (.cond (.t 10)
   (.seq
   (.ops [
   .op (some 4) none (.mov (.c (.bool false)))])
   .ret)
   .skip)))
   (.cut
   (.seq
   (.seq
   (.ops [
   .op (some 5) none (.mov (.c (.int .i64 (0))))])
   (.cut
   (.block 0
   (.loop
   (.seq
   (.seq
   (.ops [
   .op (some 11) none (.mov (.t 5)),
   .op (some 12) none (.mov (.t 0)),
   .op (some 13) none (.len false (.t 12)),
   .op (some 14) none (.bin .lss false [] (.t 11) (.t 13))])
   (.cut
   (.cond (.t 14)
   .skip
   (.exit 0))))
   (.cut
   (.seq
   (.block 1
   (.seq
   (.ops [
   .op (some 17) none (.mov (.t 0)),
   .op (some 18) none (.mov (.t 5)),
   .op (some 19) none (.iaddr 1 (.t 17) (.t 18)),
   .op (some 20) none (.load false 1 (.t 19)),
   .op (some 21) none (.mov (.t 1)),
   .op (some 22) none (.mov (.t 5)),
   .op (some 23) none (.iaddr 1 (.t 21) (.t 22)),
   .op (some 24) none (.load false 1 (.t 23)),
   .op (some 25) none (.bin .neq false [.i] (.t 20) (.t 24))])
   (.cut
   (.cond (.t 25)
   (.seq
   (.ops [
   .op (some 4) none (.mov (.c (.bool false)))])
   .ret)
   .skip))))
   (.cut
   (.ops [
   .op (some 15) none (.mov (.t 5)),
   .op (some 16) none (.bin .add false [] (.t 15) (.c (.int .i64 (1)))),
   .op (some 5) none (.mov (.t 16))])))))))))
   (.cut
   (.seq
   (.ops [
   .op (some 4) none (.mov (.c (.bool true)))])
   .ret)))))))
def r_R1_Ints : List RVar := [.tmp 4]
def n_R1_Ints : Nat := 26
theorem k_R1_Ints : chkFn Go.Proofs.Try.prog 26 n_R1_Ints r_R1_Ints c_R1_Ints = true := by kernel_rfl
theorem f_R1_Ints (xs ys : List Int) (hl : xs.length ≤ 140737488355328) : Fc Go.Proofs.Try.prog 26 [.sl .p (xs.map i64V), .sl .p (ys.map i64V)] (.bool (decide (xs = ys))) := by
  refine Fn.step mixed k_R1_Ints ?_
  repeat' (first | refine i_len rfl ?_ | refine i_s rfl ?_ | refine c_seq ?_ | refine c_cut0 ?_ | refine c_ops ?_ | refine i_nil ?_ | refine e_seq ?_ | refine e_block ?_ | refine c_block ?_ | refine c_skip ?_ | refine c_ret ?_ | refine c_exit ?_ | refine e_exit rfl ?_ | refine i_s0 rfl ?_ | refine c_leaf ?_ | refine i_gt rfl ?_ | refine i_gf rfl ?_ | refine i_gd rfl ?_ | refine c_t rfl ?_ | refine c_f rfl ?_ | refine i_conv rfl (by simp only [InR, List.length_map]; omega) ?_ | refine i_add rfl rfl (by simp only [InR, List.length_map]; omega) ?_ | refine i_sub rfl rfl (by simp only [InR, List.length_map]; omega) ?_ | refine i_ixm rfl rfl (by assumption) ?_ | refine i_iai rfl rfl (by omega) (by assumption) rfl ?_ | refine i_iam rfl rfl (by assumption) rfl ?_ | refine i_tk rfl rfl (by omega) ?_ | refine i_stb rfl ?_ | refine i_alloc rfl ?_ | refine i_box rfl rfl ?_ | refine i_nv rfl ?_ | refine c_node ?_ ?_ | refine i_g rfl (fun h => ?_) (fun h => ?_) | refine c_cond rfl (fun h => ?_) (fun h => ?_))
  · have e : xs.length ≠ ys.length := by simp at h; omega
    refine e_ret ⟨rfl, _, rfl, congrArg V.bool (decide_eq_false fun e' => e (by rw [e']))⟩
  have e : xs.length = ys.length := by simp at h; omega
  refine c_for xs.length (fun k => [(0, .sl .p (xs.map i64V)), (1, .sl .p (ys.map i64V)), (5, .int .i64 k)]) (fun _ => []) (fun k => xs.take k = ys.take k) (by simp) ⟨by repeat (first | exact trivial | refine ⟨rfl, ?_⟩), by repeat (first | exact trivial | refine ⟨rfl, ?_⟩), rfl⟩ fun k hk hi => ?_
  repeat (first | refine i_len rfl ?_ | refine i_s rfl ?_ | refine c_seq ?_ | refine c_cut0 ?_ | refine c_ops ?_ | refine i_nil ?_ | refine e_seq ?_ | refine e_block ?_ | refine c_block ?_ | refine c_skip ?_ | refine c_ret ?_ | refine c_exit ?_ | refine e_exit rfl ?_ | refine i_s0 rfl ?_ | refine c_leaf ?_ | refine i_gt rfl ?_ | refine i_gf rfl ?_ | refine i_gd rfl ?_ | refine c_t rfl ?_ | refine c_f rfl ?_ | refine i_conv rfl (by simp only [InR, List.length_map]; omega) ?_ | refine i_add rfl rfl (by simp only [InR, List.length_map]; omega) ?_ | refine i_sub rfl rfl (by simp only [InR, List.length_map]; omega) ?_ | refine i_ixm rfl rfl (by assumption) ?_ | refine i_iai rfl rfl (by omega) (by assumption) rfl ?_ | refine i_iam rfl rfl (by assumption) rfl ?_ | refine i_tk rfl rfl (by omega) ?_ | refine i_stb rfl ?_ | refine i_alloc rfl ?_ | refine i_box rfl rfl ?_ | refine i_nv rfl ?_)
  refine c_cond rfl (fun h => ?_) (fun h => ?_)
  · have hlt : k < xs.length := by simpa using h
    obtain ⟨c, hc⟩ := get_some hlt
    obtain ⟨c', hc'⟩ := get_some (e ▸ hlt)
    repeat' (first | refine i_len rfl ?_ | refine i_s rfl ?_ | refine c_seq ?_ | refine c_cut0 ?_ | refine c_ops ?_ | refine i_nil ?_ | refine e_seq ?_ | refine e_block ?_ | refine c_block ?_ | refine c_skip ?_ | refine c_ret ?_ | refine c_exit ?_ | refine e_exit rfl ?_ | refine i_s0 rfl ?_ | refine c_leaf ?_ | refine i_gt rfl ?_ | refine i_gf rfl ?_ | refine i_gd rfl ?_ | refine c_t rfl ?_ | refine c_f rfl ?_ | refine i_conv rfl (by simp only [InR, List.length_map]; omega) ?_ | refine i_add rfl rfl (by simp only [InR, List.length_map]; omega) ?_ | refine i_sub rfl rfl (by simp only [InR, List.length_map]; omega) ?_ | refine i_ixm rfl rfl (by assumption) ?_ | refine i_iai rfl rfl (by omega) (by assumption) rfl ?_ | refine i_iam rfl rfl (by assumption) rfl ?_ | refine i_tk rfl rfl (by omega) ?_ | refine i_stb rfl ?_ | refine i_alloc rfl ?_ | refine i_box rfl rfl ?_ | refine i_nv rfl ?_ | refine c_node ?_ ?_ | refine i_g rfl (fun h => ?_) (fun h => ?_) | refine c_cond rfl (fun h => ?_) (fun h => ?_))
    · refine e_ret ⟨rfl, _, rfl, congrArg V.bool (decide_eq_false fun e' => ?_)⟩
      subst e'
      rw [hc] at hc'
      cases hc'
      simp at h
    · refine e_for hlt ?_ ⟨by repeat (first | exact trivial | refine ⟨rfl, ?_⟩), by repeat (first | exact trivial | refine ⟨rfl, ?_⟩), rfl⟩
      have e : c = c' := by simpa using h
      rw [take_succ_get hc, take_succ_get hc', hi, e]
  · have hge : ¬ k < xs.length := by simpa using h
    rw [List.take_of_length_le (by omega), List.take_of_length_le (by omega)] at hi
    repeat' (first | refine i_len rfl ?_ | refine i_s rfl ?_ | refine c_seq ?_ | refine c_cut0 ?_ | refine c_ops ?_ | refine i_nil ?_ | refine e_seq ?_ | refine e_block ?_ | refine c_block ?_ | refine c_skip ?_ | refine c_ret ?_ | refine c_exit ?_ | refine e_exit rfl ?_ | refine i_s0 rfl ?_ | refine c_leaf ?_ | refine i_gt rfl ?_ | refine i_gf rfl ?_ | refine i_gd rfl ?_ | refine c_t rfl ?_ | refine c_f rfl ?_ | refine i_conv rfl (by simp only [InR, List.length_map]; omega) ?_ | refine i_add rfl rfl (by simp only [InR, List.length_map]; omega) ?_ | refine i_sub rfl rfl (by simp only [InR, List.length_map]; omega) ?_ | refine i_ixm rfl rfl (by assumption) ?_ | refine i_iai rfl rfl (by omega) (by assumption) rfl ?_ | refine i_iam rfl rfl (by assumption) rfl ?_ | refine i_tk rfl rfl (by omega) ?_ | refine i_stb rfl ?_ | refine i_alloc rfl ?_ | refine i_box rfl rfl ?_ | refine i_nv rfl ?_ | refine c_node ?_ ?_ | refine i_g rfl (fun h => ?_) (fun h => ?_) | refine c_cond rfl (fun h => ?_) (fun h => ?_))
    exact e_ret ⟨rfl, _, rfl, congrArg V.bool (decide_eq_true hi)⟩
end Hm
end

section
/- Contracts: subsets. -/
namespace Hm
open Go
set_option maxRecDepth 100000
set_option maxHeartbeats 1000000
set_option linter.unusedSimpArgs false
set_option linter.unusedVariables false
def c_R1_Subset : Cmd :=
  (.seq
   (.ops [
   .op (some 4) none (.mov (.c (.bool false)))])
   (.cut
   (.seq
   (.seq
   (.ops [
   .op (some 5) none (.mov (.c (.int .i64 (0))))])
   (.cut
   (.block 0
   (.loop
   (.seq
   (.seq
   (.ops [
   .op (some 6) none (.mov (.t 5)),
   .op (some 7) none (.mov (.t 0)),
   .op (some 8) none (.len false (.t 7)),
   .op (some 9) none (.bin .lss false [] (.t 6) (.t 8))])
   (.cut
   (.cond (.t 9)
   .skip
   (.exit 0))))
   (.cut
   (.seq
   (.block 1
   (.seq
   (.ops [
   .op (some 12) none (.mov (.t 1)),
   .op (some 13) none (.mov (.t 0)),
   .op (some 14) none (.mov (.t 5)),
   .op (some 15) none (.iaddr 1 (.t 13) (.t 14)),
   .op (some 16) none (.load false 1 (.t 15)),
   .op (some 17) none (.call .f (.c (.fn 35 [])) [.t 12, .t 16]),
   .op (some 18) none (.not (.t 17))])
   (.cut
   (.cond (.t 18)
   (.seq
   (.ops [
   .op (some 4) none (.mov (.c (.bool false)))])
   .ret)
   .skip))))
   (.cut
   (.ops [
   .op (some 10) none (.mov (.t 5)),
   .op (some 11) none (.bin .add false [] (.t 10) (.c (.int .i64 (1)))),
   .op (some 5) none (.mov (.t 11))])))))))))
   (.cut
   (.seq
   (.ops [
   .op (some 4) none (.mov (.c (.bool true)))])
   .ret)))))
def r_R1_Subset : List RVar := [.tmp 4]
def n_R1_Subset : Nat := 19
theorem k_R1_Subset : chkFn Go.Proofs.Try.prog 64 n_R1_Subset r_R1_Subset c_R1_Subset = true := by kernel_rfl
theorem f_R1_Subset (xs ys : List Int) (hl : xs.length ≤ 140737488355328) (hl2 : ys.length ≤ 140737488355328) : Fc Go.Proofs.Try.prog 64 [.sl .p (xs.map i64V), .sl .p (ys.map i64V)] (.bool (xs.all fun x => decide (x ∈ ys))) := by
  refine Fn.step mixed k_R1_Subset ?_
  repeat' (first | refine i_len rfl ?_ | refine i_s rfl ?_ | refine c_seq ?_ | refine c_cut0 ?_ | refine c_ops ?_ | refine i_nil ?_ | refine e_seq ?_ | refine e_block ?_ | refine c_block ?_ | refine c_skip ?_ | refine c_ret ?_ | refine c_exit ?_ | refine e_exit rfl ?_ | refine i_s0 rfl ?_ | refine c_leaf ?_ | refine i_gt rfl ?_ | refine i_gf rfl ?_ | refine i_gd rfl ?_ | refine c_t rfl ?_ | refine c_f rfl ?_ | refine i_conv rfl (by simp only [InR, List.length_map]; omega) ?_ | refine i_add rfl rfl (by simp only [InR, List.length_map]; omega) ?_ | refine i_sub rfl rfl (by simp only [InR, List.length_map]; omega) ?_ | refine i_ixm rfl rfl (by assumption) ?_ | refine i_iai rfl rfl (by omega) (by assumption) rfl ?_ | refine i_iam rfl rfl (by assumption) rfl ?_ | refine i_tk rfl rfl (by omega) ?_ | refine i_stb rfl ?_ | refine i_alloc rfl ?_ | refine i_box rfl rfl ?_ | refine i_nv rfl ?_ | refine c_node ?_ ?_ | refine i_g rfl (fun h => ?_) (fun h => ?_) | refine c_cond rfl (fun h => ?_) (fun h => ?_))
  refine c_for xs.length (fun k => [(0, .sl .p (xs.map i64V)), (1, .sl .p (ys.map i64V)), (5, .int .i64 k)]) (fun _ => []) (fun k => ∀ j, j < k → ∀ c, xs[j]? = some c → c ∈ ys) all_zero ⟨by repeat (first | exact trivial | refine ⟨rfl, ?_⟩), by repeat (first | exact trivial | refine ⟨rfl, ?_⟩), rfl⟩ fun k hk hi => ?_
  repeat (first | refine i_len rfl ?_ | refine i_s rfl ?_ | refine c_seq ?_ | refine c_cut0 ?_ | refine c_ops ?_ | refine i_nil ?_ | refine e_seq ?_ | refine e_block ?_ | refine c_block ?_ | refine c_skip ?_ | refine c_ret ?_ | refine c_exit ?_ | refine e_exit rfl ?_ | refine i_s0 rfl ?_ | refine c_leaf ?_ | refine i_gt rfl ?_ | refine i_gf rfl ?_ | refine i_gd rfl ?_ | refine c_t rfl ?_ | refine c_f rfl ?_ | refine i_conv rfl (by simp only [InR, List.length_map]; omega) ?_ | refine i_add rfl rfl (by simp only [InR, List.length_map]; omega) ?_ | refine i_sub rfl rfl (by simp only [InR, List.length_map]; omega) ?_ | refine i_ixm rfl rfl (by assumption) ?_ | refine i_iai rfl rfl (by omega) (by assumption) rfl ?_ | refine i_iam rfl rfl (by assumption) rfl ?_ | refine i_tk rfl rfl (by omega) ?_ | refine i_stb rfl ?_ | refine i_alloc rfl ?_ | refine i_box rfl rfl ?_ | refine i_nv rfl ?_)
  refine c_cond rfl (fun h => ?_) (fun h => ?_)
  · have hlt : k < xs.length := by simpa using h
    obtain ⟨c, hc⟩ := get_some hlt
    clear h
    repeat' (first | refine i_len rfl ?_ | refine i_s rfl ?_ | refine c_seq ?_ | refine c_cut0 ?_ | refine c_ops ?_ | refine i_nil ?_ | refine e_seq ?_ | refine e_block ?_ | refine c_block ?_ | refine c_skip ?_ | refine c_ret ?_ | refine c_exit ?_ | refine e_exit rfl ?_ | refine i_s0 rfl ?_ | refine c_leaf ?_ | refine i_gt rfl ?_ | refine i_gf rfl ?_ | refine i_gd rfl ?_ | refine c_t rfl ?_ | refine c_f rfl ?_ | refine i_conv rfl (by simp only [InR, List.length_map]; omega) ?_ | refine i_add rfl rfl (by simp only [InR, List.length_map]; omega) ?_ | refine i_sub rfl rfl (by simp only [InR, List.length_map]; omega) ?_ | refine i_ixm rfl rfl (by assumption) ?_ | refine i_iai rfl rfl (by omega) (by assumption) rfl ?_ | refine i_iam rfl rfl (by assumption) rfl ?_ | refine i_tk rfl rfl (by omega) ?_ | refine i_stb rfl ?_ | refine i_alloc rfl ?_ | refine i_box rfl rfl ?_ | refine i_nv rfl ?_ | refine c_node ?_ ?_ | refine i_g rfl (fun h => ?_) (fun h => ?_) | refine c_cond rfl (fun h => ?_) (fun h => ?_) | refine i_f rfl rfl (f_R1_Has ys c hl2) rfl ?_)
    · refine e_ret ⟨rfl, _, rfl, congrArg V.bool ?_⟩
      rw [List.all_eq_false]
      exact ⟨c, mem_get hc, by simpa using h⟩
    · exact e_for hlt (all_succ hi fun c' hc' => by rw [hc] at hc'; cases hc'; simpa using h) ⟨by repeat (first | exact trivial | refine ⟨rfl, ?_⟩), by repeat (first | exact trivial | refine ⟨rfl, ?_⟩), rfl⟩
  · have hge : ¬ k < xs.length := by simpa using h
    repeat' (first | refine i_len rfl ?_ | refine i_s rfl ?_ | refine c_seq ?_ | refine c_cut0 ?_ | refine c_ops ?_ | refine i_nil ?_ | refine e_seq ?_ | refine e_block ?_ | refine c_block ?_ | refine c_skip ?_ | refine c_ret ?_ | refine c_exit ?_ | refine e_exit rfl ?_ | refine i_s0 rfl ?_ | refine c_leaf ?_ | refine i_gt rfl ?_ | refine i_gf rfl ?_ | refine i_gd rfl ?_ | refine c_t rfl ?_ | refine c_f rfl ?_ | refine i_conv rfl (by simp only [InR, List.length_map]; omega) ?_ | refine i_add rfl rfl (by simp only [InR, List.length_map]; omega) ?_ | refine i_sub rfl rfl (by simp only [InR, List.length_map]; omega) ?_ | refine i_ixm rfl rfl (by assumption) ?_ | refine i_iai rfl rfl (by omega) (by assumption) rfl ?_ | refine i_iam rfl rfl (by assumption) rfl ?_ | refine i_tk rfl rfl (by omega) ?_ | refine i_stb rfl ?_ | refine i_alloc rfl ?_ | refine i_box rfl rfl ?_ | refine i_nv rfl ?_ | refine c_node ?_ ?_ | refine i_g rfl (fun h => ?_) (fun h => ?_) | refine c_cond rfl (fun h => ?_) (fun h => ?_))
    refine e_ret ⟨rfl, _, rfl, congrArg V.bool ?_⟩
    rw [List.all_eq_true]
    intro x hx
    obtain ⟨i, hi', e⟩ := List.getElem_of_mem hx
    exact decide_eq_true (hi i (by omega) x (by rw [← e]; exact List.getElem?_eq_getElem hi'))
end Hm
end

section
/- Multi-valued tasks: what the functions answer, in plain terms. No program in sight. -/
namespace Hm
open Go
structure Asg where
  var : Int
  value : Int
structure MOp where
  pre : List Asg
  post : List Asg
  cost : Int
structure MTask where
  sizes : List Int
  init : List Int
  goal : List Asg
  ops : List MOp
def asV (a : Asg) : V := .agg [.int .i64 a.var, .int .i64 a.value]
def moV (o : MOp) : V := .agg [.sl .p (o.pre.map asV), .sl .p (o.post.map asV), .int .i64 o.cost]
def mtV (m : MTask) : V := .agg [.sl .p (m.sizes.map i64V), .sl .p (m.init.map i64V), .sl .p (m.goal.map asV), .sl .p (m.ops.map moV)]
def mtZ : V := .agg [.sl .nil [], .sl .nil [], .sl .nil [], .sl .nil []]
def allN (p : Nat → Bool) (n : Nat) : Bool := (List.range n).all p
theorem allN_bad {p : Nat → Bool} {n k : Nat} (hk : k < n) (h : p k = false) : allN p n = false := by
  unfold allN
  rw [List.all_eq_false]
  exact ⟨k, List.mem_range.2 hk, by simp [h]⟩
theorem allN_ok {p : Nat → Bool} {n : Nat} (h : ∀ j, j < n → p j = true) : allN p n = true := by
  unfold allN
  rw [List.all_eq_true]
  exact fun j hj => h j (List.mem_range.1 hj)
theorem allN_get {p : Nat → Bool} {n : Nat} (h : allN p n = true) {j : Nat} (hj : j < n) : p j = true := (List.all_eq_true.1 h) j (List.mem_range.2 hj)
def stAt (sizes s : List Int) (v : Nat) : Bool := match s[v]?, sizes[v]? with
  | some x, some z => decide (0 ≤ x) && decide (x < z)
  | _, _ => false
def stB (sizes s : List Int) : Bool := decide (s.length = sizes.length) && allN (stAt sizes s) s.length
/-- The assignment before, at a place. -/
def asPrev (l : List Asg) (i : Nat) (v : Int) : Bool := match l[i - 1]? with
  | some b => decide (b.var < v)
  | none => true
def szAt (sizes : List Int) (v : Int) : Option Int := if v < 0 then none else sizes[v.toNat]?
def asAt (sizes : List Int) (l : List Asg) (i : Nat) : Bool := match l[i]? with
  | none => false
  | some a => match szAt sizes a.var with
    | none => false
    | some z => decide (0 ≤ a.value) && decide (a.value < z) && (decide (i = 0) || asPrev l i a.var)
def asB (sizes : List Int) (l : List Asg) : Bool := allN (asAt sizes l) l.length
def opBad (sizes : List Int) (ops : List MOp) (i : Nat) : Option Flt := match ops[i]? with
  | none => none
  | some o => if asB sizes o.pre = false ∨ asB sizes o.post = false then some ⟨5, i⟩ else if o.cost < 0 ∨ o.cost > 100 then some ⟨3, i⟩ else none
def szBad (n : Int) : Bool := decide (n < 1) || decide (n > 6)
def mFault (m : MTask) : Flt := if m.sizes.length = 0 ∨ m.sizes.length > 8 then ⟨2, -1⟩ else if m.sizes.any szBad = true then ⟨3, -1⟩ else if stB m.sizes m.init = false then ⟨5, -2⟩ else if asB m.sizes m.goal = false then ⟨5, -3⟩
  else if m.ops.length > 40 then ⟨2, -1⟩ else (scan (opBad m.sizes m.ops) 0 m.ops.length).getD okF
def holdAt (s : List Int) (a : Asg) : Bool := match szAt s a.var with
  | some x => x == a.value
  | none => false
def holds (s : List Int) (l : List Asg) : Bool := l.all (holdAt s)
def setAll (s : List Int) (l : List Asg) : List Int := l.foldl (fun s a => s.set a.var.toNat a.value) s
/-- Numbers of memory that can be. -/
def MOk (m : MTask) : Prop := m.sizes.length ≤ 140737488355328 ∧ m.init.length ≤ 140737488355328 ∧ m.goal.length ≤ 140737488355328 ∧ m.ops.length ≤ 140737488355328 ∧ ∀ o ∈ m.ops, o.pre.length ≤ 140737488355328 ∧ o.post.length ≤ 140737488355328
end Hm
end

section
/- Multi-valued tasks: valid tasks, plans. No program in sight. -/
namespace Hm
open Go
def asIn (n : Nat) (l : List Asg) : Prop := ∀ a ∈ l, 0 ≤ a.var ∧ a.var < n
theorem asB_in {sizes : List Int} {l : List Asg} (h : asB sizes l = true) : asIn sizes.length l := by
  intro a ha
  obtain ⟨i, hi, e⟩ := List.getElem_of_mem ha
  have hg : l[i]? = some a := by rw [← e]; exact List.getElem?_eq_getElem hi
  have := allN_get h hi
  unfold asAt at this
  rw [hg] at this
  simp only at this
  split at this
  · cases this
  · rename_i z hz
    unfold szAt at hz
    split at hz
    · cases hz
    · have := get_lt hz; omega
structure MV (m : MTask) : Prop where
  rng : ∀ z ∈ m.sizes, 1 ≤ z ∧ z ≤ 6
  len : m.sizes.length ≤ 8
  pos : 1 ≤ m.sizes.length
  init : stB m.sizes m.init = true
  goal : asB m.sizes m.goal = true
  opl : m.ops.length ≤ 40
  op : ∀ o ∈ m.ops, asB m.sizes o.pre = true ∧ asB m.sizes o.post = true ∧ 0 ≤ o.cost ∧ o.cost ≤ 100
theorem scan_allM {α : Type} {bad : Nat → Option α} : ∀ (n i : Nat), scan bad i n = none → ∀ j, i ≤ j → j < i + n → bad j = none
  | 0, i, _, j, h1, h2 => by omega
  | n + 1, i, h, j, h1, h2 => by
    simp only [scan] at h
    split at h
    · cases h
    · rename_i e
      by_cases hj : j = i
      · rw [hj]; exact e
      · exact scan_allM n (i + 1) h j (by omega) (by omega)
theorem opBad_code (sizes : List Int) (ops : List MOp) (i : Nat) : ∀ f, opBad sizes ops i = some f → f.code ≠ 0 := by
  intro f h
  unfold opBad at h
  split at h
  · cases h
  · repeat' split at h
    all_goals cases h
    all_goals simp
theorem scan_code {bad : Nat → Option Flt} (hb : ∀ i f, bad i = some f → f.code ≠ 0) : ∀ n i f, scan bad i n = some f → f.code ≠ 0
  | 0, _, _, h => by cases h
  | n + 1, i, f, h => by
    simp only [scan] at h
    split at h
    · rename_i g e; cases h; exact hb _ _ e
    · exact scan_code hb n (i + 1) f h
theorem getD_code {o : Option Flt} (hc : ∀ f, o = some f → f.code ≠ 0) (h : (o.getD okF).code = 0) : o = none := by
  cases o with
  | none => rfl
  | some f => exact absurd h (hc f rfl)
theorem mFault_code (m : MTask) : (mFault m).code = 0 → MV m := by
  intro h
  unfold mFault at h
  split at h
  · cases h
  · rename_i h1
    split at h
    · cases h
    · rename_i h2
      split at h
      · cases h
      · rename_i h3
        split at h
        · cases h
        · rename_i h4
          split at h
          · cases h
          · rename_i h5
            have hs := getD_code (scan_code (opBad_code m.sizes m.ops) _ _) h
            refine ⟨fun z hz => ?_, by omega, by omega, by simpa using h3, by simpa using h4, by omega, fun o ho => ?_⟩
            · rw [Bool.not_eq_true, List.any_eq_false] at h2
              have := h2 z hz
              simp [szBad] at this
              omega
            · obtain ⟨i, hi, e⟩ := List.getElem_of_mem ho
              have hg : m.ops[i]? = some o := by rw [← e]; exact List.getElem?_eq_getElem hi
              have := scan_allM _ _ hs i (Nat.zero_le _) (by omega)
              unfold opBad at this
              rw [hg] at this
              simp only at this
              split at this
              · cases this
              · rename_i q1
                split at this
                · cases this
                · rename_i q2
                  simp only [not_or, Bool.not_eq_false] at q1
                  exact ⟨q1.1, q1.2, by omega, by omega⟩
theorem mFault_ok {m : MTask} (h : mFault m = okF) : MV m := mFault_code m (by rw [h]; rfl)
theorem mFault_iff (m : MTask) : (mFault m).code = 0 ↔ mFault m = okF := by
  refine ⟨fun h => ?_, fun h => by rw [h]; rfl⟩
  have hv := mFault_code m h
  have h0 := h
  unfold mFault at h ⊢
  split at h
  · cases h
  · rename_i h1
    rw [if_neg h1]
    split at h
    · cases h
    · rename_i h2
      rw [if_neg h2]
      split at h
      · cases h
      · rename_i h3
        rw [if_neg h3]
        split at h
        · cases h
        · rename_i h4
          rw [if_neg h4]
          split at h
          · cases h
          · rename_i h5
            rw [if_neg h5]
            have hs := getD_code (scan_code (opBad_code m.sizes m.ops) _ _) h
            rw [hs]; rfl
def mStFault (m : MTask) (s : List Int) : Flt := if mFault m = okF then (if stB m.sizes s = true then okF else ⟨5, -4⟩) else mFault m
theorem stB_len {sizes s : List Int} (h : stB sizes s = true) : s.length = sizes.length := by
  unfold stB at h
  simp only [Bool.and_eq_true] at h
  exact of_decide_eq_true h.1
/-- Those below k that pass a test. -/
def selK (p : Nat → Bool) (k : Nat) : List Int := ((List.range k).filter p).map Int.ofNat
theorem selK_succ (p : Nat → Bool) (k : Nat) : selK p (k + 1) = selK p k ++ (if p k = true then [(k : Int)] else []) := by
  unfold selK
  rw [List.range_succ, List.filter_append, List.map_append]
  congr 1
  simp only [List.filter]
  cases p k <;> rfl
theorem selK_len (p : Nat → Bool) (k : Nat) : (selK p k).length ≤ k := by
  unfold selK
  rw [List.length_map]
  exact Nat.le_trans (List.length_filter_le _ _) (by simp)
def appAt (m : MTask) (s : List Int) (i : Nat) : Bool := match m.ops[i]? with
  | some o => holds s o.pre
  | none => false
def appL (m : MTask) (s : List Int) : List Int := selK (appAt m s) m.ops.length
def badStep (n : Nat) (x : Int) : Bool := decide (x < 0) || decide (x ≥ n)
def stepsF (n : Nat) (plan : List Int) : Flt := if plan.length > 60 then ⟨2, -5⟩ else if plan.any (badStep n) = true then ⟨3, -6⟩ else okF
theorem stepsF_ok {n : Nat} {plan : List Int} (h : stepsF n plan = okF) : plan.length ≤ 60 ∧ ∀ x ∈ plan, 0 ≤ x ∧ x < n := by
  unfold stepsF at h
  split at h
  · cases h
  · split at h
    · cases h
    · rename_i h1 h2
      refine ⟨by omega, fun x hx => ?_⟩
      rw [Bool.not_eq_true, List.any_eq_false] at h2
      have := h2 x hx
      simp [badStep] at this
      omega
theorem stepsF_iff (n : Nat) (plan : List Int) : (stepsF n plan).code = 0 ↔ stepsF n plan = okF := by
  refine ⟨fun h => ?_, fun h => by rw [h]; rfl⟩
  unfold stepsF at h ⊢
  repeat' split at h
  all_goals first | (rename_i h1 h2; rw [if_neg h1, if_neg h2]; done) | cases h
def mPlanFault (m : MTask) (plan : List Int) : Flt := if mFault m = okF then stepsF m.ops.length plan else mFault m
theorem mPlanFault_iff (m : MTask) (plan : List Int) : (mPlanFault m plan).code = 0 ↔ mPlanFault m plan = okF := by
  unfold mPlanFault
  split
  · exact stepsF_iff _ _
  · exact mFault_iff m
def mRun (m : MTask) : List Int → List Int → Option (List Int)
  | s, [] => some s
  | s, op :: r => match m.ops[op.toNat]? with
    | some o => if holds s o.pre = true then mRun m (setAll s o.post) r else none
    | none => none
theorem mRun_append (m : MTask) : ∀ (a : List Int) (s : List Int) (b : List Int), mRun m s (a ++ b) = match mRun m s a with
    | some s' => mRun m s' b
    | none => none
  | [], s, b => rfl
  | op :: r, s, b => by
    simp only [List.cons_append, mRun]
    split
    · split
      · exact mRun_append m r _ b
      · rfl
    · rfl
def mSolves (m : MTask) (plan : List Int) : Bool := match mRun m m.init plan with
  | some s => holds s m.goal
  | none => false
def costAt (m : MTask) (op : Int) : Int := match m.ops[op.toNat]? with
  | some o => o.cost
  | none => 0
def costL (m : MTask) : List Int → Int
  | [] => 0
  | op :: r => costAt m op + costL m r
theorem costL_snoc (m : MTask) : ∀ (l : List Int) (op : Int), costL m (l ++ [op]) = costL m l + costAt m op
  | [], op => by simp [costL]
  | a :: l, op => by simp only [List.cons_append, costL, costL_snoc m l op]; omega
theorem setAll_len (s : List Int) : ∀ l : List Asg, (setAll s l).length = s.length
  | [] => rfl
  | a :: l => by
    show (setAll (s.set a.var.toNat a.value) l).length = _
    rw [setAll_len _ l]; simp
theorem setAll_snoc (s : List Int) (l : List Asg) (a : Asg) : setAll s (l ++ [a]) = (setAll s l).set a.var.toNat a.value := by simp [setAll]
end Hm
end

section
/- Multi-valued tasks: their translation, in plain terms. No program in sight. -/
namespace Hm
open Go
structure SOp where
  pre : List Int
  add : List Int
  del : List Int
  cost : Int
structure STask where
  facts : Int
  init : List Int
  goal : List Int
  ops : List SOp
def soV (o : SOp) : V := .agg [.sl .p (o.pre.map i64V), .sl .p (o.add.map i64V), .sl .p (o.del.map i64V), .int .i64 o.cost]
def skV (t : STask) : V := .agg [.int .i64 t.facts, .sl .p (t.init.map i64V), .sl .p (t.goal.map i64V), .sl .p (t.ops.map soV)]
def skZ : STask := ⟨0, [], [], []⟩
def sumL : List Int → Int
  | [] => 0
  | z :: r => z + sumL r
theorem sumL_snoc : ∀ (l : List Int) (z : Int), sumL (l ++ [z]) = sumL l + z
  | [], z => by simp [sumL]
  | a :: l, z => by simp only [List.cons_append, sumL, sumL_snoc l z]; omega
def baseFrom : Int → List Int → List Int
  | _, [] => []
  | n, z :: r => n :: baseFrom (n + z) r
theorem baseFrom_snoc : ∀ (l : List Int) (n z : Int), baseFrom n (l ++ [z]) = baseFrom n l ++ [n + sumL l]
  | [], n, z => by simp [baseFrom, sumL]
  | a :: l, n, z => by simp only [List.cons_append, baseFrom, baseFrom_snoc l, sumL]; rw [show n + a + sumL l = n + (a + sumL l) from by omega]
theorem baseFrom_len : ∀ (l : List Int) (n : Int), (baseFrom n l).length = l.length
  | [], _ => rfl
  | a :: l, n => by simp only [baseFrom, List.length_cons, baseFrom_len l]
theorem sumL_range : ∀ (l : List Int), (∀ z ∈ l, 1 ≤ z ∧ z ≤ 6) → 0 ≤ sumL l ∧ sumL l ≤ 6 * l.length
  | [], _ => by simp [sumL]
  | a :: l, h => by
    have h1 := h a (by simp)
    have h2 := sumL_range l fun z hz => h z (by simp [hz])
    simp only [sumL, List.length_cons]
    omega
theorem baseFrom_range : ∀ (l : List Int) (n : Int), (∀ z ∈ l, 1 ≤ z ∧ z ≤ 6) → ∀ x ∈ baseFrom n l, n ≤ x ∧ x ≤ n + sumL l
  | [], _, _, x, hx => by simp [baseFrom] at hx
  | a :: l, n, h, x, hx => by
    have h1 := h a (by simp)
    have h2 := sumL_range l fun z hz => h z (by simp [hz])
    simp only [baseFrom] at hx
    simp only [sumL]
    rcases List.mem_cons.1 hx with e | hx
    · omega
    · have := baseFrom_range l (n + a) (fun z hz => h z (by simp [hz])) x hx
      omega
def bAt (b : List Int) (v : Int) : Int := (b[v.toNat]?).getD 0
def factAt (b : List Int) (a : Asg) : Int := bAt b a.var + a.value
def delK (b : List Int) (a : Asg) (k : Nat) : List Int := ((List.range k).filter fun (x : Nat) => decide ((x : Int) ≠ a.value)).map fun (x : Nat) => bAt b a.var + (x : Int)
theorem delK_succ (b : List Int) (a : Asg) (k : Nat) : delK b a (k + 1) = delK b a k ++ (if (k : Int) ≠ a.value then [bAt b a.var + k] else []) := by
  unfold delK
  rw [List.range_succ, List.filter_append, List.map_append]
  congr 1
  simp only [List.filter]
  by_cases h : (k : Int) = a.value
  · simp [h]
  · simp [h]
theorem delK_len (b : List Int) (a : Asg) (k : Nat) : (delK b a k).length ≤ k := by
  unfold delK
  rw [List.length_map]
  exact Nat.le_trans (List.length_filter_le _ _) (by simp)
def delA (b sizes : List Int) (a : Asg) : List Int := delK b a ((sizes[a.var.toNat]?).getD 0).toNat
def dels (b sizes : List Int) (l : List Asg) : List Int := l.flatMap (delA b sizes)
def initK (b init : List Int) (k : Nat) : List Int := (List.range k).map fun (v : Nat) => bAt b (v : Int) + (init[v]?).getD 0
def opT (b sizes : List Int) (o : MOp) : SOp := ⟨o.pre.map (factAt b), o.post.map (factAt b), dels b sizes o.post, o.cost⟩
def mStrips (m : MTask) : STask := ⟨sumL m.sizes, initK (baseFrom 0 m.sizes) m.init m.init.length, m.goal.map (factAt (baseFrom 0 m.sizes)), m.ops.map (opT (baseFrom 0 m.sizes) m.sizes)⟩
theorem asB_idx {sizes : List Int} {l : List Asg} (h : asB sizes l = true) : ∀ (i : Nat) (a : Asg), l[i]? = some a → (i : Int) ≤ a.var ∧ ∃ z, sizes[a.var.toNat]? = some z ∧ 0 ≤ a.value ∧ a.value < z := by
  intro i
  induction i with
  | zero =>
    intro a ha
    have h1 := asB_in h a (mem_get ha)
    have := allN_get h (get_lt ha)
    unfold asAt at this
    rw [ha] at this
    simp only at this
    split at this
    · cases this
    · rename_i z hz
      simp only [Bool.and_eq_true, decide_eq_true_eq] at this
      unfold szAt at hz
      split at hz
      · cases hz
      · exact ⟨h1.1, z, hz, this.1⟩
  | succ i ih =>
    intro a ha
    obtain ⟨b, hb⟩ := get_some (l := l) (k := i) (by have := get_lt ha; omega)
    have h2 := ih b hb
    have := allN_get h (get_lt ha)
    unfold asAt at this
    rw [ha] at this
    simp only at this
    split at this
    · cases this
    · rename_i z hz
      simp only [Bool.and_eq_true, decide_eq_true_eq, Bool.or_eq_true] at this
      unfold szAt at hz
      split at hz
      · cases hz
      · refine ⟨?_, z, hz, this.1⟩
        rcases this.2 with e | e
        · omega
        · simp [asPrev, hb] at e
          omega
theorem asB_len {sizes : List Int} {l : List Asg} (h : asB sizes l = true) : l.length ≤ sizes.length := by
  by_cases h0 : l.length = 0
  · omega
  · obtain ⟨a, ha⟩ := get_some (l := l) (k := l.length - 1) (by omega)
    obtain ⟨h1, z, hz, _⟩ := asB_idx h _ a ha
    have := (asB_in h a (mem_get ha)).2
    omega
theorem dels_len {b sizes : List Int} (hz : ∀ z ∈ sizes, 1 ≤ z ∧ z ≤ 6) : ∀ l : List Asg, (dels b sizes l).length ≤ 6 * l.length
  | [] => by simp [dels]
  | a :: l => by
    have ih := dels_len (b := b) hz l
    have : (delA b sizes a).length ≤ 6 := by
      unfold delA
      have := delK_len b a ((sizes[a.var.toNat]?).getD 0).toNat
      cases hs : sizes[a.var.toNat]? with
      | none => rw [hs] at this; simp at this; simp [this]
      | some z => rw [hs] at this; have := hz z (mem_get hs); simp at *; omega
    unfold dels at ih ⊢
    simp only [List.flatMap_cons, List.length_append, List.length_cons]
    omega
end Hm
end

section
/- Contracts: states and assignments of multi-valued tasks. -/
namespace Hm
open Go
set_option maxRecDepth 100000
set_option maxHeartbeats 1000000
set_option linter.unusedSimpArgs false
set_option linter.unusedVariables false
def c_R1_MultiState : Cmd :=
  (.seq
   (.ops [
   .op (some 2) none (.box 1408132 4 (.t 0)),
   .op (some 4) none (.mov (.c (.bool false)))])
   (.cut
   (.seq
   (.seq
   (.ops [
   .op (some 6) none (.mov (.t 1)),
   .op (some 7) none (.len false (.t 6)),
   .op (some 8) none (.faddr 0 (.t 2)),
   .op (some 9) none (.load false 1 (.t 8)),
   .op (some 10) none (.len false (.t 9)),
   .op (some 11) none (.bin .neq false [.i] (.t 7) (.t 10))])
   (.cut
   (.cond (.t 11)
   (.seq
   (.ops [
   .op (some 4) none (.mov (.c (.bool false)))])
   .ret)
   .skip)))
   (.cut
   (.seq
   (.seq
   (.ops [
   .op (some 5) none (.mov (.c (.int .i64 (0))))])
   (.cut
   (.block 0
   (.loop
   (.seq
   (.seq
   (.ops [
   .op (some 12) none (.mov (.t 5)),
   .op (some 13) none (.mov (.t 1)),
   .op (some 14) none (.len false (.t 13)),
   .op (some 15) none (.bin .lss false [] (.t 12) (.t 14))])
   (.cut
   (.cond (.t 15)
   .skip
   (.exit 0))))
   (.cut
   (.seq
   (.block 1
   (.seq
   (.ops [
   .op (some 18) none (.mov (.t 1)),
   .op (some 19) none (.mov (.t 5)),
   .op (some 20) none (.iaddr 1 (.t 18) (.t 19)),
   .op (some 21) none (.load false 1 (.t 20)),
   .op (some 22) none (.faddr 0 (.t 2)),
   .op (some 23) none (.load false 1 (.t 22)),
   .op (some 24) none (.mov (.t 5)),
   .op (some 25) none (.iaddr 1 (.t 23) (.t 24)),
   .op (some 26) none (.load false 1 (.t 25)),
   .op (some 27) none (.bin .sub false [] (.t 26) (.c (.int .i64 (1)))),
   .op (some 28) none (.call .f (.c (.fn 27 [])) [.t 21, .c (.int .i64 (0)), .t 27]),
   .op (some 29) none (.not (.t 28))])
   (.cut
   (.cond (.t 29)
   (.seq
   (.ops [
   .op (some 4) none (.mov (.c (.bool false)))])
   .ret)
   .skip))))
   (.cut
   (.ops [
   .op (some 16) none (.mov (.t 5)),
   .op (some 17) none (.bin .add false [] (.t 16) (.c (.int .i64 (1)))),
   .op (some 5) none (.mov (.t 17))])))))))))
   (.cut
   (.seq
   (.ops [
   .op (some 4) none (.mov (.c (.bool true)))])
   .ret)))))))
def r_R1_MultiState : List RVar := [.tmp 4]
def n_R1_MultiState : Nat := 30
theorem k_R1_MultiState : chkFn Go.Proofs.Try.prog 22 n_R1_MultiState r_R1_MultiState c_R1_MultiState = true := by kernel_rfl
theorem f_R1_MultiState (m : MTask) (s : List Int) (hs : s.length ≤ 140737488355328) (hz : ∀ z ∈ m.sizes, 1 ≤ z ∧ z ≤ 6) : Fc Go.Proofs.Try.prog 22 [mtV m, .sl .p (s.map i64V)] (.bool (stB m.sizes s)) := by
  refine Fn.step mixed k_R1_MultiState ?_
  repeat' (first | refine i_len rfl ?_ | refine i_s rfl ?_ | refine c_seq ?_ | refine c_cut0 ?_ | refine c_ops ?_ | refine i_nil ?_ | refine e_seq ?_ | refine e_block ?_ | refine c_block ?_ | refine c_skip ?_ | refine c_ret ?_ | refine c_exit ?_ | refine e_exit rfl ?_ | refine i_s0 rfl ?_ | refine c_leaf ?_ | refine i_gt rfl ?_ | refine i_gf rfl ?_ | refine i_gd rfl ?_ | refine c_t rfl ?_ | refine c_f rfl ?_ | refine i_conv rfl (by simp only [InR, List.length_map]; omega) ?_ | refine i_add rfl rfl (by simp only [InR, List.length_map]; omega) ?_ | refine i_sub rfl rfl (by simp only [InR, List.length_map]; omega) ?_ | refine i_ixm rfl rfl (by assumption) ?_ | refine i_iai rfl rfl (by omega) (by assumption) rfl ?_ | refine i_iam rfl rfl (by assumption) rfl ?_ | refine i_tk rfl rfl (by omega) ?_ | refine i_stb rfl ?_ | refine i_alloc rfl ?_ | refine i_box rfl rfl ?_ | refine i_nv rfl ?_ | refine c_node ?_ ?_ | refine i_g rfl (fun h => ?_) (fun h => ?_) | refine c_cond rfl (fun h => ?_) (fun h => ?_))
  · have e : s.length ≠ m.sizes.length := by simp at h; omega
    exact e_ret ⟨rfl, _, rfl, congrArg V.bool (by simp [stB, e])⟩
  have e : s.length = m.sizes.length := by simp at h; omega
  clear h
  refine c_for s.length (fun k => [(1, .sl .p (s.map i64V)), (2, .bptr 1408132 0), (5, .int .i64 k)]) (fun _ => [(1408132, .box (mtV m))]) (fun k => ∀ j, j < k → stAt m.sizes s j = true) all_zero ⟨by repeat (first | exact trivial | refine ⟨rfl, ?_⟩), by repeat (first | exact trivial | refine ⟨rfl, ?_⟩), rfl⟩ fun k hk hi => ?_
  repeat (first | refine i_len rfl ?_ | refine i_s rfl ?_ | refine c_seq ?_ | refine c_cut0 ?_ | refine c_ops ?_ | refine i_nil ?_ | refine e_seq ?_ | refine e_block ?_ | refine c_block ?_ | refine c_skip ?_ | refine c_ret ?_ | refine c_exit ?_ | refine e_exit rfl ?_ | refine i_s0 rfl ?_ | refine c_leaf ?_ | refine i_gt rfl ?_ | refine i_gf rfl ?_ | refine i_gd rfl ?_ | refine c_t rfl ?_ | refine c_f rfl ?_ | refine i_conv rfl (by simp only [InR, List.length_map]; omega) ?_ | refine i_add rfl rfl (by simp only [InR, List.length_map]; omega) ?_ | refine i_sub rfl rfl (by simp only [InR, List.length_map]; omega) ?_ | refine i_ixm rfl rfl (by assumption) ?_ | refine i_iai rfl rfl (by omega) (by assumption) rfl ?_ | refine i_iam rfl rfl (by assumption) rfl ?_ | refine i_tk rfl rfl (by omega) ?_ | refine i_stb rfl ?_ | refine i_alloc rfl ?_ | refine i_box rfl rfl ?_ | refine i_nv rfl ?_)
  refine c_cond rfl (fun h => ?_) (fun h => ?_)
  · have hlt : k < s.length := by simpa using h
    obtain ⟨x, hx⟩ := get_some hlt
    obtain ⟨z, hzz⟩ := get_some (e ▸ hlt)
    have hzb := hz z (mem_get hzz)
    have hat : stAt m.sizes s k = (decide (0 ≤ x) && decide (x < z)) := by simp [stAt, hx, hzz]
    clear h
    repeat' (first | refine i_len rfl ?_ | refine i_s rfl ?_ | refine c_seq ?_ | refine c_cut0 ?_ | refine c_ops ?_ | refine i_nil ?_ | refine e_seq ?_ | refine e_block ?_ | refine c_block ?_ | refine c_skip ?_ | refine c_ret ?_ | refine c_exit ?_ | refine e_exit rfl ?_ | refine i_s0 rfl ?_ | refine c_leaf ?_ | refine i_gt rfl ?_ | refine i_gf rfl ?_ | refine i_gd rfl ?_ | refine c_t rfl ?_ | refine c_f rfl ?_ | refine i_conv rfl (by simp only [InR, List.length_map]; omega) ?_ | refine i_add rfl rfl (by simp only [InR, List.length_map]; omega) ?_ | refine i_sub rfl rfl (by simp only [InR, List.length_map]; omega) ?_ | refine i_ixm rfl rfl (by assumption) ?_ | refine i_iai rfl rfl (by omega) (by assumption) rfl ?_ | refine i_iam rfl rfl (by assumption) rfl ?_ | refine i_tk rfl rfl (by omega) ?_ | refine i_stb rfl ?_ | refine i_alloc rfl ?_ | refine i_box rfl rfl ?_ | refine i_nv rfl ?_ | refine c_node ?_ ?_ | refine i_g rfl (fun h => ?_) (fun h => ?_) | refine c_cond rfl (fun h => ?_) (fun h => ?_) | refine i_f rfl rfl (f_R1_In _ _ _) rfl ?_)
    · refine e_ret ⟨rfl, _, rfl, congrArg V.bool ?_⟩
      have : stAt m.sizes s k = false := by rw [hat]; grind
      simp [stB, allN_bad hlt this]
    · exact e_for hlt (all_succ hi (by rw [hat]; grind)) ⟨by repeat (first | exact trivial | refine ⟨rfl, ?_⟩), by repeat (first | exact trivial | refine ⟨rfl, ?_⟩), rfl⟩
  · have hge : ¬ k < s.length := by simpa using h
    repeat' (first | refine i_len rfl ?_ | refine i_s rfl ?_ | refine c_seq ?_ | refine c_cut0 ?_ | refine c_ops ?_ | refine i_nil ?_ | refine e_seq ?_ | refine e_block ?_ | refine c_block ?_ | refine c_skip ?_ | refine c_ret ?_ | refine c_exit ?_ | refine e_exit rfl ?_ | refine i_s0 rfl ?_ | refine c_leaf ?_ | refine i_gt rfl ?_ | refine i_gf rfl ?_ | refine i_gd rfl ?_ | refine c_t rfl ?_ | refine c_f rfl ?_ | refine i_conv rfl (by simp only [InR, List.length_map]; omega) ?_ | refine i_add rfl rfl (by simp only [InR, List.length_map]; omega) ?_ | refine i_sub rfl rfl (by simp only [InR, List.length_map]; omega) ?_ | refine i_ixm rfl rfl (by assumption) ?_ | refine i_iai rfl rfl (by omega) (by assumption) rfl ?_ | refine i_iam rfl rfl (by assumption) rfl ?_ | refine i_tk rfl rfl (by omega) ?_ | refine i_stb rfl ?_ | refine i_alloc rfl ?_ | refine i_box rfl rfl ?_ | refine i_nv rfl ?_ | refine c_node ?_ ?_ | refine i_g rfl (fun h => ?_) (fun h => ?_) | refine c_cond rfl (fun h => ?_) (fun h => ?_))
    exact e_ret ⟨rfl, _, rfl, congrArg V.bool (by simp [stB, e]; exact allN_ok fun j hj => hi j (by omega))⟩
def c_multi_IsState : Cmd :=
  (.seq
   (.ops [
   .op (some 2) none (.box 4544132 4 (.t 0)),
   .op (some 4) none (.mov (.c (.bool false)))])
   (.cut
   (.seq
   (.seq
   (.ops [
   .op (some 7) none (.mov (.t 1)),
   .op (some 8) none (.len false (.t 7)),
   .op (some 9) none (.faddr 0 (.t 2)),
   .op (some 10) none (.load false 1 (.t 9)),
   .op (some 11) none (.len false (.t 10)),
   .op (some 12) none (.bin .neq false [.i] (.t 8) (.t 11))])
   (.cut
   (.cond (.t 12)
   (.seq
   (.ops [
   .op (some 4) none (.mov (.c (.bool false)))])
   .ret)
   .skip)))
   (.cut
   (.seq
   (.seq
   (.ops [
   .op (some 13) none (.mov (.t 1)),
   .op (some 14) none (.len false (.t 13)),
   .op (some 15) none (.mov (.c (.int .i64 (0))))])
   (.cut
   (.block 0
   (.loop
   (.seq
   (.ops [
   .op (some 16) none (.bin .lss false [] (.t 15) (.t 14))])
   (.cut
   (.seq
   (.cond (.t 16)
   .skip
   (.exit 0))
   (.cut
   (.seq
   (.block 1
   (.seq
   (.ops [
   .op (some 17) none (.mov (.t 15)),
   .op (some 18) none (.iaddr 1 (.t 13) (.t 15)),
   .op (some 19) none (.load false 1 (.t 18)),
   .op (some 5) none (.mov (.t 17)),
   .op (some 6) none (.mov (.t 19))])
   (.cut
   (.seq
   (.ops [
   .op (some 20) none (.mov (.t 6)),
   .op (some 21) none (.bin .lss false [] (.t 20) (.c (.int .i64 (0)))),
   .op (some 22) none (.mov (.t 21)),
   .op (some 23) (some (22, false)) (.mov (.t 6)),
   .op (some 24) (some (22, false)) (.faddr 0 (.t 2)),
   .op (some 25) (some (22, false)) (.load false 1 (.t 24)),
   .op (some 26) (some (22, false)) (.mov (.t 5)),
   .op (some 27) (some (22, false)) (.iaddr 1 (.t 25) (.t 26)),
   .op (some 28) (some (22, false)) (.load false 1 (.t 27)),
   .op (some 29) (some (22, false)) (.bin .geq false [] (.t 23) (.t 28)),
   .op (some 30) none (.pick (.t 22) (.c (.bool true)) (.t 29))])
   (.cut
   (.cond (.t 30)
   (.seq
   (.ops [
   .op (some 4) none (.mov (.c (.bool false)))])
   .ret)
   .skip))))))
   (.cut
   (.ops [
   .op (some 31) none (.bin .add false [] (.t 15) (.c (.int .i64 (1)))),
   .op (some 15) none (.mov (.t 31))])))))))))))
   (.cut
   (.seq
   (.ops [
   .op (some 4) none (.mov (.c (.bool true)))])
   .ret)))))))
def r_multi_IsState : List RVar := [.tmp 4]
def n_multi_IsState : Nat := 32
theorem k_multi_IsState : chkFn Go.Proofs.Try.prog 71 n_multi_IsState r_multi_IsState c_multi_IsState = true := by kernel_rfl
theorem f_multi_IsState (m : MTask) (s : List Int) (hs : s.length ≤ 140737488355328) : Fc Go.Proofs.Try.prog 71 [mtV m, .sl .p (s.map i64V)] (.bool (stB m.sizes s)) := by
  refine Fn.step mixed k_multi_IsState ?_
  repeat' (first | refine i_len rfl ?_ | refine i_s rfl ?_ | refine c_seq ?_ | refine c_cut0 ?_ | refine c_ops ?_ | refine i_nil ?_ | refine e_seq ?_ | refine e_block ?_ | refine c_block ?_ | refine c_skip ?_ | refine c_ret ?_ | refine c_exit ?_ | refine e_exit rfl ?_ | refine i_s0 rfl ?_ | refine c_leaf ?_ | refine i_gt rfl ?_ | refine i_gf rfl ?_ | refine i_gd rfl ?_ | refine c_t rfl ?_ | refine c_f rfl ?_ | refine i_conv rfl (by simp only [InR, List.length_map]; omega) ?_ | refine i_add rfl rfl (by simp only [InR, List.length_map]; omega) ?_ | refine i_sub rfl rfl (by simp only [InR, List.length_map]; omega) ?_ | refine i_ixm rfl rfl (by assumption) ?_ | refine i_iai rfl rfl (by omega) (by assumption) rfl ?_ | refine i_iam rfl rfl (by assumption) rfl ?_ | refine i_tk rfl rfl (by omega) ?_ | refine i_stb rfl ?_ | refine i_alloc rfl ?_ | refine i_box rfl rfl ?_ | refine i_nv rfl ?_ | refine c_node ?_ ?_ | refine i_g rfl (fun h => ?_) (fun h => ?_) | refine c_cond rfl (fun h => ?_) (fun h => ?_))
  · have e : s.length ≠ m.sizes.length := by simp at h; omega
    exact e_ret ⟨rfl, _, rfl, congrArg V.bool (by simp [stB, e])⟩
  have e : s.length = m.sizes.length := by simp at h; omega
  clear h
  refine c_for s.length (fun k => [(2, .bptr 4544132 0), (13, .sl .p (s.map i64V)), (14, .int .i64 s.length), (15, .int .i64 k)]) (fun _ => [(4544132, .box (mtV m))]) (fun k => ∀ j, j < k → stAt m.sizes s j = true) all_zero ⟨by repeat (first | exact trivial | refine ⟨rfl, ?_⟩), by repeat (first | exact trivial | refine ⟨rfl, ?_⟩), rfl⟩ fun k hk hi => ?_
  repeat (first | refine i_len rfl ?_ | refine i_s rfl ?_ | refine c_seq ?_ | refine c_cut0 ?_ | refine c_ops ?_ | refine i_nil ?_ | refine e_seq ?_ | refine e_block ?_ | refine c_block ?_ | refine c_skip ?_ | refine c_ret ?_ | refine c_exit ?_ | refine e_exit rfl ?_ | refine i_s0 rfl ?_ | refine c_leaf ?_ | refine i_gt rfl ?_ | refine i_gf rfl ?_ | refine i_gd rfl ?_ | refine c_t rfl ?_ | refine c_f rfl ?_ | refine i_conv rfl (by simp only [InR, List.length_map]; omega) ?_ | refine i_add rfl rfl (by simp only [InR, List.length_map]; omega) ?_ | refine i_sub rfl rfl (by simp only [InR, List.length_map]; omega) ?_ | refine i_ixm rfl rfl (by assumption) ?_ | refine i_iai rfl rfl (by omega) (by assumption) rfl ?_ | refine i_iam rfl rfl (by assumption) rfl ?_ | refine i_tk rfl rfl (by omega) ?_ | refine i_stb rfl ?_ | refine i_alloc rfl ?_ | refine i_box rfl rfl ?_ | refine i_nv rfl ?_)
  refine c_cond rfl (fun h => ?_) (fun h => ?_)
  · have hlt : k < s.length := by simpa using h
    obtain ⟨x, hx⟩ := get_some hlt
    obtain ⟨z, hzz⟩ := get_some (e ▸ hlt)
    have hat : stAt m.sizes s k = (decide (0 ≤ x) && decide (x < z)) := by simp [stAt, hx, hzz]
    clear h
    repeat' (first | refine i_len rfl ?_ | refine i_s rfl ?_ | refine c_seq ?_ | refine c_cut0 ?_ | refine c_ops ?_ | refine i_nil ?_ | refine e_seq ?_ | refine e_block ?_ | refine c_block ?_ | refine c_skip ?_ | refine c_ret ?_ | refine c_exit ?_ | refine e_exit rfl ?_ | refine i_s0 rfl ?_ | refine c_leaf ?_ | refine i_gt rfl ?_ | refine i_gf rfl ?_ | refine i_gd rfl ?_ | refine c_t rfl ?_ | refine c_f rfl ?_ | refine i_conv rfl (by simp only [InR, List.length_map]; omega) ?_ | refine i_add rfl rfl (by simp only [InR, List.length_map]; omega) ?_ | refine i_sub rfl rfl (by simp only [InR, List.length_map]; omega) ?_ | refine i_ixm rfl rfl (by assumption) ?_ | refine i_iai rfl rfl (by omega) (by assumption) rfl ?_ | refine i_iam rfl rfl (by assumption) rfl ?_ | refine i_tk rfl rfl (by omega) ?_ | refine i_stb rfl ?_ | refine i_alloc rfl ?_ | refine i_box rfl rfl ?_ | refine i_nv rfl ?_ | refine c_node ?_ ?_ | refine i_g rfl (fun h => ?_) (fun h => ?_) | refine c_cond rfl (fun h => ?_) (fun h => ?_))
    all_goals first
      | exact e_for hlt (all_succ hi (by rw [hat]; grind)) ⟨by repeat (first | exact trivial | refine ⟨rfl, ?_⟩), by repeat (first | exact trivial | refine ⟨rfl, ?_⟩), rfl⟩
      | refine e_ret ⟨rfl, _, rfl, congrArg V.bool ?_⟩
        have : stAt m.sizes s k = false := by rw [hat]; grind
        simp [stB, allN_bad hlt this]
  · have hge : ¬ k < s.length := by simpa using h
    repeat' (first | refine i_len rfl ?_ | refine i_s rfl ?_ | refine c_seq ?_ | refine c_cut0 ?_ | refine c_ops ?_ | refine i_nil ?_ | refine e_seq ?_ | refine e_block ?_ | refine c_block ?_ | refine c_skip ?_ | refine c_ret ?_ | refine c_exit ?_ | refine e_exit rfl ?_ | refine i_s0 rfl ?_ | refine c_leaf ?_ | refine i_gt rfl ?_ | refine i_gf rfl ?_ | refine i_gd rfl ?_ | refine c_t rfl ?_ | refine c_f rfl ?_ | refine i_conv rfl (by simp only [InR, List.length_map]; omega) ?_ | refine i_add rfl rfl (by simp only [InR, List.length_map]; omega) ?_ | refine i_sub rfl rfl (by simp only [InR, List.length_map]; omega) ?_ | refine i_ixm rfl rfl (by assumption) ?_ | refine i_iai rfl rfl (by omega) (by assumption) rfl ?_ | refine i_iam rfl rfl (by assumption) rfl ?_ | refine i_tk rfl rfl (by omega) ?_ | refine i_stb rfl ?_ | refine i_alloc rfl ?_ | refine i_box rfl rfl ?_ | refine i_nv rfl ?_ | refine c_node ?_ ?_ | refine i_g rfl (fun h => ?_) (fun h => ?_) | refine c_cond rfl (fun h => ?_) (fun h => ?_))
    exact e_ret ⟨rfl, _, rfl, congrArg V.bool (by simp [stB, e]; exact allN_ok fun j hj => hi j (by omega))⟩
end Hm
end

section
/- Contracts: searching; assignments. -/
namespace Hm
open Go
set_option maxRecDepth 100000
set_option maxHeartbeats 1000000
set_option linter.unusedSimpArgs false
set_option linter.unusedVariables false
def c_slices_IndexFunc_int : Cmd :=
  (.seq
   (.ops [
   .op (some 4) none (.mov (.c (.int .i64 (0))))])
   (.cut
   (.seq
   (.seq
   (.ops [
   .op (some 6) none (.mov (.t 0)),
   .op (some 7) none (.len false (.t 6)),
   .op (some 8) none (.mov (.c (.int .i64 (0))))])
   (.cut
   (.block 0
   (.loop
   (.seq
   (.ops [
   .op (some 9) none (.bin .lss false [] (.t 8) (.t 7))])
   (.cut
   (.seq
   (.cond (.t 9)
   .skip
   (.exit 0))
   (.cut
   (.seq
   (.block 1
   (.seq
   (.ops [
   .op (some 10) none (.mov (.t 8)),
   .op (some 5) none (.mov (.t 10))])
   (.cut
   (.seq
   (.ops [
   .op (some 11) none (.mov (.t 1)),
   .op (some 12) none (.mov (.t 0)),
   .op (some 13) none (.mov (.t 5)),
   .op (some 14) none (.iaddr 1 (.t 12) (.t 13)),
   .op (some 15) none (.load false 1 (.t 14)),
   .op (some 16) none (.call .f (.t 11) [.t 15])])
   (.cut
   (.cond (.t 16)
   (.seq
   (.ops [
   .op (some 17) none (.mov (.t 5)),
   .op (some 4) none (.mov (.t 17))])
   .ret)
   .skip))))))
   (.cut
   (.ops [
   .op (some 18) none (.bin .add false [] (.t 8) (.c (.int .i64 (1)))),
   .op (some 8) none (.mov (.t 18))])))))))))))
   (.cut
   (.seq
   (.ops [
   .op (some 4) none (.mov (.c (.int .i64 (-1))))])
   .ret)))))
def r_slices_IndexFunc_int : List RVar := [.tmp 4]
def n_slices_IndexFunc_int : Nat := 19
theorem k_slices_IndexFunc_int : chkFn Go.Proofs.Try.prog 102 n_slices_IndexFunc_int r_slices_IndexFunc_int c_slices_IndexFunc_int = true := by kernel_rfl
theorem f_IndexFunc_int (l : List Int) (p : Int → Bool) (fid : Nat) (caps : List V) (hl : l.length ≤ 140737488355328) (he : ∀ σ n, caps.map (er σ (n + 1)) = caps) (hc : closedL [] caps = true) (hp : ∀ t ∈ l, Fc Go.Proofs.Try.prog fid (i64V t :: caps) (.bool (p t))) :
    Fc Go.Proofs.Try.prog 102 [.sl .p (l.map i64V), .fn fid caps] (.int .i64 (fidx p l)) := by
  refine Fn.step mixed k_slices_IndexFunc_int ?_
  repeat (first | refine i_len rfl ?_ | refine i_s rfl ?_ | refine c_seq ?_ | refine c_cut0 ?_ | refine c_ops ?_ | refine i_nil ?_ | refine e_seq ?_ | refine e_block ?_ | refine c_block ?_ | refine c_skip ?_ | refine c_ret ?_ | refine c_exit ?_ | refine e_exit rfl ?_ | refine i_s0 rfl ?_ | refine c_leaf ?_ | refine i_gt rfl ?_ | refine i_gf rfl ?_ | refine i_gd rfl ?_ | refine c_t rfl ?_ | refine c_f rfl ?_ | refine i_conv rfl (by simp only [InR, List.length_map]; omega) ?_ | refine i_add rfl rfl (by simp only [InR, List.length_map]; omega) ?_ | refine i_sub rfl rfl (by simp only [InR, List.length_map]; omega) ?_ | refine i_ixm rfl rfl (by assumption) ?_ | refine i_iai rfl rfl (by omega) (by assumption) rfl ?_ | refine i_iam rfl rfl (by assumption) rfl ?_ | refine i_tk rfl rfl (by omega) ?_ | refine i_stb rfl ?_ | refine i_alloc rfl ?_ | refine i_box rfl rfl ?_ | refine i_nv rfl ?_)
  refine c_for l.length (fun k => [(0, .sl .p (l.map i64V)), (1, .fn fid caps), (7, .int .i64 l.length), (8, .int .i64 k)]) (fun _ => []) (fun k => ∀ j, j < k → ∀ c, l[j]? = some c → p c = false) all_zero ?_ fun k hk hi => ?_
  · exact ⟨⟨rfl, rfl, rfl, rfl, trivial⟩, trivial, by simp [fitB, closedE, closedB, hc, closedSt, hasAll]⟩
  repeat (first | refine i_len rfl ?_ | refine i_s rfl ?_ | refine c_seq ?_ | refine c_cut0 ?_ | refine c_ops ?_ | refine i_nil ?_ | refine e_seq ?_ | refine e_block ?_ | refine c_block ?_ | refine c_skip ?_ | refine c_ret ?_ | refine c_exit ?_ | refine e_exit rfl ?_ | refine i_s0 rfl ?_ | refine c_leaf ?_ | refine i_gt rfl ?_ | refine i_gf rfl ?_ | refine i_gd rfl ?_ | refine c_t rfl ?_ | refine c_f rfl ?_ | refine i_conv rfl (by simp only [InR, List.length_map]; omega) ?_ | refine i_add rfl rfl (by simp only [InR, List.length_map]; omega) ?_ | refine i_sub rfl rfl (by simp only [InR, List.length_map]; omega) ?_ | refine i_ixm rfl rfl (by assumption) ?_ | refine i_iai rfl rfl (by omega) (by assumption) rfl ?_ | refine i_iam rfl rfl (by assumption) rfl ?_ | refine i_tk rfl rfl (by omega) ?_ | refine i_stb rfl ?_ | refine i_alloc rfl ?_ | refine i_box rfl rfl ?_ | refine i_nv rfl ?_)
  refine c_cond rfl (fun h => ?_) (fun h => ?_)
  · have hlt : k < l.length := by simpa using h
    obtain ⟨c, hget⟩ := get_some hlt
    repeat (first | refine i_len rfl ?_ | refine i_s rfl ?_ | refine c_seq ?_ | refine c_cut0 ?_ | refine c_ops ?_ | refine i_nil ?_ | refine e_seq ?_ | refine e_block ?_ | refine c_block ?_ | refine c_skip ?_ | refine c_ret ?_ | refine c_exit ?_ | refine e_exit rfl ?_ | refine i_s0 rfl ?_ | refine c_leaf ?_ | refine i_gt rfl ?_ | refine i_gf rfl ?_ | refine i_gd rfl ?_ | refine c_t rfl ?_ | refine c_f rfl ?_ | refine i_conv rfl (by simp only [InR, List.length_map]; omega) ?_ | refine i_add rfl rfl (by simp only [InR, List.length_map]; omega) ?_ | refine i_sub rfl rfl (by simp only [InR, List.length_map]; omega) ?_ | refine i_ixm rfl rfl (by assumption) ?_ | refine i_iai rfl rfl (by omega) (by assumption) rfl ?_ | refine i_iam rfl rfl (by assumption) rfl ?_ | refine i_tk rfl rfl (by omega) ?_ | refine i_stb rfl ?_ | refine i_alloc rfl ?_ | refine i_box rfl rfl ?_ | refine i_nv rfl ?_)
    refine i_f rfl (congrArg (i64V c :: ·) (he _ 5)) (hp c (mem_get hget)) rfl ?_
    repeat' (first | refine i_len rfl ?_ | refine i_s rfl ?_ | refine c_seq ?_ | refine c_cut0 ?_ | refine c_ops ?_ | refine i_nil ?_ | refine e_seq ?_ | refine e_block ?_ | refine c_block ?_ | refine c_skip ?_ | refine c_ret ?_ | refine c_exit ?_ | refine e_exit rfl ?_ | refine i_s0 rfl ?_ | refine c_leaf ?_ | refine i_gt rfl ?_ | refine i_gf rfl ?_ | refine i_gd rfl ?_ | refine c_t rfl ?_ | refine c_f rfl ?_ | refine i_conv rfl (by simp only [InR, List.length_map]; omega) ?_ | refine i_add rfl rfl (by simp only [InR, List.length_map]; omega) ?_ | refine i_sub rfl rfl (by simp only [InR, List.length_map]; omega) ?_ | refine i_ixm rfl rfl (by assumption) ?_ | refine i_iai rfl rfl (by omega) (by assumption) rfl ?_ | refine i_iam rfl rfl (by assumption) rfl ?_ | refine i_tk rfl rfl (by omega) ?_ | refine i_stb rfl ?_ | refine i_alloc rfl ?_ | refine i_box rfl rfl ?_ | refine i_nv rfl ?_ | refine c_node ?_ ?_ | refine i_g rfl (fun h => ?_) (fun h => ?_) | refine c_cond rfl (fun h => ?_) (fun h => ?_))
    · refine e_ret ⟨rfl, _, rfl, congrArg (V.int .i64) (fidx_hit hi hget h)⟩
    · refine e_for hlt (all_succ hi fun c' hc' => ?_) ⟨⟨rfl, rfl, rfl, rfl, trivial⟩, trivial, by simp [fitB, closedE, closedB, hc, closedSt, hasAll]⟩
      rw [hget] at hc'; cases hc'; exact h
  · have hge : ¬ k < l.length := by simpa using h
    repeat' (first | refine i_len rfl ?_ | refine i_s rfl ?_ | refine c_seq ?_ | refine c_cut0 ?_ | refine c_ops ?_ | refine i_nil ?_ | refine e_seq ?_ | refine e_block ?_ | refine c_block ?_ | refine c_skip ?_ | refine c_ret ?_ | refine c_exit ?_ | refine e_exit rfl ?_ | refine i_s0 rfl ?_ | refine c_leaf ?_ | refine i_gt rfl ?_ | refine i_gf rfl ?_ | refine i_gd rfl ?_ | refine c_t rfl ?_ | refine c_f rfl ?_ | refine i_conv rfl (by simp only [InR, List.length_map]; omega) ?_ | refine i_add rfl rfl (by simp only [InR, List.length_map]; omega) ?_ | refine i_sub rfl rfl (by simp only [InR, List.length_map]; omega) ?_ | refine i_ixm rfl rfl (by assumption) ?_ | refine i_iai rfl rfl (by omega) (by assumption) rfl ?_ | refine i_iam rfl rfl (by assumption) rfl ?_ | refine i_tk rfl rfl (by omega) ?_ | refine i_stb rfl ?_ | refine i_alloc rfl ?_ | refine i_box rfl rfl ?_ | refine i_nv rfl ?_ | refine c_node ?_ ?_ | refine i_g rfl (fun h => ?_) (fun h => ?_) | refine c_cond rfl (fun h => ?_) (fun h => ?_))
    refine e_ret ⟨rfl, _, rfl, congrArg (V.int .i64) (fidx_none fun j hj => hi j (by omega))⟩
def c_slices_ContainsFunc_int : Cmd :=
  (.seq
   (.ops [
   .op (some 4) none (.mov (.c (.bool false)))])
   (.cut
   (.seq
   (.ops [
   .op (some 5) none (.mov (.t 0)),
   .op (some 6) none (.mov (.t 1)),
   .op (some 7) none (.call .f (.c (.fn 102 [])) [.t 5, .t 6]),
   .op (some 8) none (.bin .geq false [] (.t 7) (.c (.int .i64 (0)))),
   .op (some 4) none (.mov (.t 8))])
   .ret)))
def r_slices_ContainsFunc_int : List RVar := [.tmp 4]
def n_slices_ContainsFunc_int : Nat := 9
theorem k_slices_ContainsFunc_int : chkFn Go.Proofs.Try.prog 70 n_slices_ContainsFunc_int r_slices_ContainsFunc_int c_slices_ContainsFunc_int = true := by kernel_rfl
theorem f_ContainsFunc_int (l : List Int) (p : Int → Bool) (fid : Nat) (caps : List V) (hl : l.length ≤ 140737488355328) (he : ∀ σ n, caps.map (er σ (n + 1)) = caps) (hc : closedL [] caps = true) (hp : ∀ t ∈ l, Fc Go.Proofs.Try.prog fid (i64V t :: caps) (.bool (p t))) :
    Fc Go.Proofs.Try.prog 70 [.sl .p (l.map i64V), .fn fid caps] (.bool (l.any p)) := by
  refine Fn.step mixed k_slices_ContainsFunc_int ?_
  repeat (first | refine i_len rfl ?_ | refine i_s rfl ?_ | refine c_seq ?_ | refine c_cut0 ?_ | refine c_ops ?_ | refine i_nil ?_ | refine e_seq ?_ | refine e_block ?_ | refine c_block ?_ | refine c_skip ?_ | refine c_ret ?_ | refine c_exit ?_ | refine e_exit rfl ?_ | refine i_s0 rfl ?_ | refine c_leaf ?_ | refine i_gt rfl ?_ | refine i_gf rfl ?_ | refine i_gd rfl ?_ | refine c_t rfl ?_ | refine c_f rfl ?_ | refine i_conv rfl (by simp only [InR, List.length_map]; omega) ?_ | refine i_add rfl rfl (by simp only [InR, List.length_map]; omega) ?_ | refine i_sub rfl rfl (by simp only [InR, List.length_map]; omega) ?_ | refine i_ixm rfl rfl (by assumption) ?_ | refine i_iai rfl rfl (by omega) (by assumption) rfl ?_ | refine i_iam rfl rfl (by assumption) rfl ?_ | refine i_tk rfl rfl (by omega) ?_ | refine i_stb rfl ?_ | refine i_alloc rfl ?_ | refine i_box rfl rfl ?_ | refine i_nv rfl ?_)
  refine i_f rfl (congrArg (fun x => [V.sl .p (l.map i64V), .fn fid x]) (he _ 4)) (f_IndexFunc_int l p fid caps hl he hc hp) rfl ?_
  repeat' (first | refine i_len rfl ?_ | refine i_s rfl ?_ | refine c_seq ?_ | refine c_cut0 ?_ | refine c_ops ?_ | refine i_nil ?_ | refine e_seq ?_ | refine e_block ?_ | refine c_block ?_ | refine c_skip ?_ | refine c_ret ?_ | refine c_exit ?_ | refine e_exit rfl ?_ | refine i_s0 rfl ?_ | refine c_leaf ?_ | refine i_gt rfl ?_ | refine i_gf rfl ?_ | refine i_gd rfl ?_ | refine c_t rfl ?_ | refine c_f rfl ?_ | refine i_conv rfl (by simp only [InR, List.length_map]; omega) ?_ | refine i_add rfl rfl (by simp only [InR, List.length_map]; omega) ?_ | refine i_sub rfl rfl (by simp only [InR, List.length_map]; omega) ?_ | refine i_ixm rfl rfl (by assumption) ?_ | refine i_iai rfl rfl (by omega) (by assumption) rfl ?_ | refine i_iam rfl rfl (by assumption) rfl ?_ | refine i_tk rfl rfl (by omega) ?_ | refine i_stb rfl ?_ | refine i_alloc rfl ?_ | refine i_box rfl rfl ?_ | refine i_nv rfl ?_ | refine c_node ?_ ?_ | refine i_g rfl (fun h => ?_) (fun h => ?_) | refine c_cond rfl (fun h => ?_) (fun h => ?_))
  refine e_ret ⟨rfl, _, rfl, congrArg V.bool (fidx_any p l).symm⟩

def c_slices_IndexFunc_Assign : Cmd :=
  (.seq
   (.ops [
   .op (some 4) none (.mov (.c (.int .i64 (0))))])
   (.cut
   (.seq
   (.seq
   (.ops [
   .op (some 6) none (.mov (.t 0)),
   .op (some 7) none (.len false (.t 6)),
   .op (some 8) none (.mov (.c (.int .i64 (0))))])
   (.cut
   (.block 0
   (.loop
   (.seq
   (.ops [
   .op (some 9) none (.bin .lss false [] (.t 8) (.t 7))])
   (.cut
   (.seq
   (.cond (.t 9)
   .skip
   (.exit 0))
   (.cut
   (.seq
   (.block 1
   (.seq
   (.ops [
   .op (some 10) none (.mov (.t 8)),
   .op (some 5) none (.mov (.t 10))])
   (.cut
   (.seq
   (.ops [
   .op (some 11) none (.mov (.t 1)),
   .op (some 12) none (.mov (.t 0)),
   .op (some 13) none (.mov (.t 5)),
   .op (some 14) none (.iaddr 2 (.t 12) (.t 13)),
   .op (some 15) none (.load true 2 (.t 14)),
   .op (some 16) none (.call .f (.t 11) [.t 15])])
   (.cut
   (.cond (.t 16)
   (.seq
   (.ops [
   .op (some 17) none (.mov (.t 5)),
   .op (some 4) none (.mov (.t 17))])
   .ret)
   .skip))))))
   (.cut
   (.ops [
   .op (some 18) none (.bin .add false [] (.t 8) (.c (.int .i64 (1)))),
   .op (some 8) none (.mov (.t 18))])))))))))))
   (.cut
   (.seq
   (.ops [
   .op (some 4) none (.mov (.c (.int .i64 (-1))))])
   .ret)))))
def r_slices_IndexFunc_Assign : List RVar := [.tmp 4]
def n_slices_IndexFunc_Assign : Nat := 19
theorem k_slices_IndexFunc_Assign : chkFn Go.Proofs.Try.prog 111 n_slices_IndexFunc_Assign r_slices_IndexFunc_Assign c_slices_IndexFunc_Assign = true := by kernel_rfl
theorem f_IndexFunc_Assign (l : List Asg) (p : Asg → Bool) (fid : Nat) (caps : List V) (hl : l.length ≤ 140737488355328) (he : ∀ σ n, caps.map (er σ (n + 1)) = caps) (hc : closedL [] caps = true) (hp : ∀ t ∈ l, Fc Go.Proofs.Try.prog fid (asV t :: caps) (.bool (p t))) :
    Fc Go.Proofs.Try.prog 111 [.sl .p (l.map asV), .fn fid caps] (.int .i64 (fidx p l)) := by
  refine Fn.step mixed k_slices_IndexFunc_Assign ?_
  repeat (first | refine i_len rfl ?_ | refine i_s rfl ?_ | refine c_seq ?_ | refine c_cut0 ?_ | refine c_ops ?_ | refine i_nil ?_ | refine e_seq ?_ | refine e_block ?_ | refine c_block ?_ | refine c_skip ?_ | refine c_ret ?_ | refine c_exit ?_ | refine e_exit rfl ?_ | refine i_s0 rfl ?_ | refine c_leaf ?_ | refine i_gt rfl ?_ | refine i_gf rfl ?_ | refine i_gd rfl ?_ | refine c_t rfl ?_ | refine c_f rfl ?_ | refine i_conv rfl (by simp only [InR, List.length_map]; omega) ?_ | refine i_add rfl rfl (by simp only [InR, List.length_map]; omega) ?_ | refine i_sub rfl rfl (by simp only [InR, List.length_map]; omega) ?_ | refine i_ixm rfl rfl (by assumption) ?_ | refine i_iai rfl rfl (by omega) (by assumption) rfl ?_ | refine i_iam rfl rfl (by assumption) rfl ?_ | refine i_tk rfl rfl (by omega) ?_ | refine i_stb rfl ?_ | refine i_alloc rfl ?_ | refine i_box rfl rfl ?_ | refine i_nv rfl ?_)
  refine c_for l.length (fun k => [(0, .sl .p (l.map asV)), (1, .fn fid caps), (7, .int .i64 l.length), (8, .int .i64 k)]) (fun _ => []) (fun k => ∀ j, j < k → ∀ c, l[j]? = some c → p c = false) all_zero ?_ fun k hk hi => ?_
  · exact ⟨⟨rfl, rfl, rfl, rfl, trivial⟩, trivial, by simp [fitB, closedE, closedB, hc, closedSt, hasAll]⟩
  repeat (first | refine i_len rfl ?_ | refine i_s rfl ?_ | refine c_seq ?_ | refine c_cut0 ?_ | refine c_ops ?_ | refine i_nil ?_ | refine e_seq ?_ | refine e_block ?_ | refine c_block ?_ | refine c_skip ?_ | refine c_ret ?_ | refine c_exit ?_ | refine e_exit rfl ?_ | refine i_s0 rfl ?_ | refine c_leaf ?_ | refine i_gt rfl ?_ | refine i_gf rfl ?_ | refine i_gd rfl ?_ | refine c_t rfl ?_ | refine c_f rfl ?_ | refine i_conv rfl (by simp only [InR, List.length_map]; omega) ?_ | refine i_add rfl rfl (by simp only [InR, List.length_map]; omega) ?_ | refine i_sub rfl rfl (by simp only [InR, List.length_map]; omega) ?_ | refine i_ixm rfl rfl (by assumption) ?_ | refine i_iai rfl rfl (by omega) (by assumption) rfl ?_ | refine i_iam rfl rfl (by assumption) rfl ?_ | refine i_tk rfl rfl (by omega) ?_ | refine i_stb rfl ?_ | refine i_alloc rfl ?_ | refine i_box rfl rfl ?_ | refine i_nv rfl ?_)
  refine c_cond rfl (fun h => ?_) (fun h => ?_)
  · have hlt : k < l.length := by simpa using h
    obtain ⟨c, hget⟩ := get_some hlt
    repeat (first | refine i_len rfl ?_ | refine i_s rfl ?_ | refine c_seq ?_ | refine c_cut0 ?_ | refine c_ops ?_ | refine i_nil ?_ | refine e_seq ?_ | refine e_block ?_ | refine c_block ?_ | refine c_skip ?_ | refine c_ret ?_ | refine c_exit ?_ | refine e_exit rfl ?_ | refine i_s0 rfl ?_ | refine c_leaf ?_ | refine i_gt rfl ?_ | refine i_gf rfl ?_ | refine i_gd rfl ?_ | refine c_t rfl ?_ | refine c_f rfl ?_ | refine i_conv rfl (by simp only [InR, List.length_map]; omega) ?_ | refine i_add rfl rfl (by simp only [InR, List.length_map]; omega) ?_ | refine i_sub rfl rfl (by simp only [InR, List.length_map]; omega) ?_ | refine i_ixm rfl rfl (by assumption) ?_ | refine i_iai rfl rfl (by omega) (by assumption) rfl ?_ | refine i_iam rfl rfl (by assumption) rfl ?_ | refine i_tk rfl rfl (by omega) ?_ | refine i_stb rfl ?_ | refine i_alloc rfl ?_ | refine i_box rfl rfl ?_ | refine i_nv rfl ?_)
    refine i_f rfl (congrArg (asV c :: ·) (he _ 5)) (hp c (mem_get hget)) rfl ?_
    repeat' (first | refine i_len rfl ?_ | refine i_s rfl ?_ | refine c_seq ?_ | refine c_cut0 ?_ | refine c_ops ?_ | refine i_nil ?_ | refine e_seq ?_ | refine e_block ?_ | refine c_block ?_ | refine c_skip ?_ | refine c_ret ?_ | refine c_exit ?_ | refine e_exit rfl ?_ | refine i_s0 rfl ?_ | refine c_leaf ?_ | refine i_gt rfl ?_ | refine i_gf rfl ?_ | refine i_gd rfl ?_ | refine c_t rfl ?_ | refine c_f rfl ?_ | refine i_conv rfl (by simp only [InR, List.length_map]; omega) ?_ | refine i_add rfl rfl (by simp only [InR, List.length_map]; omega) ?_ | refine i_sub rfl rfl (by simp only [InR, List.length_map]; omega) ?_ | refine i_ixm rfl rfl (by assumption) ?_ | refine i_iai rfl rfl (by omega) (by assumption) rfl ?_ | refine i_iam rfl rfl (by assumption) rfl ?_ | refine i_tk rfl rfl (by omega) ?_ | refine i_stb rfl ?_ | refine i_alloc rfl ?_ | refine i_box rfl rfl ?_ | refine i_nv rfl ?_ | refine c_node ?_ ?_ | refine i_g rfl (fun h => ?_) (fun h => ?_) | refine c_cond rfl (fun h => ?_) (fun h => ?_))
    · refine e_ret ⟨rfl, _, rfl, congrArg (V.int .i64) (fidx_hit hi hget h)⟩
    · refine e_for hlt (all_succ hi fun c' hc' => ?_) ⟨⟨rfl, rfl, rfl, rfl, trivial⟩, trivial, by simp [fitB, closedE, closedB, hc, closedSt, hasAll]⟩
      rw [hget] at hc'; cases hc'; exact h
  · have hge : ¬ k < l.length := by simpa using h
    repeat' (first | refine i_len rfl ?_ | refine i_s rfl ?_ | refine c_seq ?_ | refine c_cut0 ?_ | refine c_ops ?_ | refine i_nil ?_ | refine e_seq ?_ | refine e_block ?_ | refine c_block ?_ | refine c_skip ?_ | refine c_ret ?_ | refine c_exit ?_ | refine e_exit rfl ?_ | refine i_s0 rfl ?_ | refine c_leaf ?_ | refine i_gt rfl ?_ | refine i_gf rfl ?_ | refine i_gd rfl ?_ | refine c_t rfl ?_ | refine c_f rfl ?_ | refine i_conv rfl (by simp only [InR, List.length_map]; omega) ?_ | refine i_add rfl rfl (by simp only [InR, List.length_map]; omega) ?_ | refine i_sub rfl rfl (by simp only [InR, List.length_map]; omega) ?_ | refine i_ixm rfl rfl (by assumption) ?_ | refine i_iai rfl rfl (by omega) (by assumption) rfl ?_ | refine i_iam rfl rfl (by assumption) rfl ?_ | refine i_tk rfl rfl (by omega) ?_ | refine i_stb rfl ?_ | refine i_alloc rfl ?_ | refine i_box rfl rfl ?_ | refine i_nv rfl ?_ | refine c_node ?_ ?_ | refine i_g rfl (fun h => ?_) (fun h => ?_) | refine c_cond rfl (fun h => ?_) (fun h => ?_))
    refine e_ret ⟨rfl, _, rfl, congrArg (V.int .i64) (fidx_none fun j hj => hi j (by omega))⟩
def c_slices_ContainsFunc_Assign : Cmd :=
  (.seq
   (.ops [
   .op (some 4) none (.mov (.c (.bool false)))])
   (.cut
   (.seq
   (.ops [
   .op (some 5) none (.mov (.t 0)),
   .op (some 6) none (.mov (.t 1)),
   .op (some 7) none (.call .f (.c (.fn 111 [])) [.t 5, .t 6]),
   .op (some 8) none (.bin .geq false [] (.t 7) (.c (.int .i64 (0)))),
   .op (some 4) none (.mov (.t 8))])
   .ret)))
def r_slices_ContainsFunc_Assign : List RVar := [.tmp 4]
def n_slices_ContainsFunc_Assign : Nat := 9
theorem k_slices_ContainsFunc_Assign : chkFn Go.Proofs.Try.prog 103 n_slices_ContainsFunc_Assign r_slices_ContainsFunc_Assign c_slices_ContainsFunc_Assign = true := by kernel_rfl
theorem f_ContainsFunc_Assign (l : List Asg) (p : Asg → Bool) (fid : Nat) (caps : List V) (hl : l.length ≤ 140737488355328) (he : ∀ σ n, caps.map (er σ (n + 1)) = caps) (hc : closedL [] caps = true) (hp : ∀ t ∈ l, Fc Go.Proofs.Try.prog fid (asV t :: caps) (.bool (p t))) :
    Fc Go.Proofs.Try.prog 103 [.sl .p (l.map asV), .fn fid caps] (.bool (l.any p)) := by
  refine Fn.step mixed k_slices_ContainsFunc_Assign ?_
  repeat (first | refine i_len rfl ?_ | refine i_s rfl ?_ | refine c_seq ?_ | refine c_cut0 ?_ | refine c_ops ?_ | refine i_nil ?_ | refine e_seq ?_ | refine e_block ?_ | refine c_block ?_ | refine c_skip ?_ | refine c_ret ?_ | refine c_exit ?_ | refine e_exit rfl ?_ | refine i_s0 rfl ?_ | refine c_leaf ?_ | refine i_gt rfl ?_ | refine i_gf rfl ?_ | refine i_gd rfl ?_ | refine c_t rfl ?_ | refine c_f rfl ?_ | refine i_conv rfl (by simp only [InR, List.length_map]; omega) ?_ | refine i_add rfl rfl (by simp only [InR, List.length_map]; omega) ?_ | refine i_sub rfl rfl (by simp only [InR, List.length_map]; omega) ?_ | refine i_ixm rfl rfl (by assumption) ?_ | refine i_iai rfl rfl (by omega) (by assumption) rfl ?_ | refine i_iam rfl rfl (by assumption) rfl ?_ | refine i_tk rfl rfl (by omega) ?_ | refine i_stb rfl ?_ | refine i_alloc rfl ?_ | refine i_box rfl rfl ?_ | refine i_nv rfl ?_)
  refine i_f rfl (congrArg (fun x => [V.sl .p (l.map asV), .fn fid x]) (he _ 4)) (f_IndexFunc_Assign l p fid caps hl he hc hp) rfl ?_
  repeat' (first | refine i_len rfl ?_ | refine i_s rfl ?_ | refine c_seq ?_ | refine c_cut0 ?_ | refine c_ops ?_ | refine i_nil ?_ | refine e_seq ?_ | refine e_block ?_ | refine c_block ?_ | refine c_skip ?_ | refine c_ret ?_ | refine c_exit ?_ | refine e_exit rfl ?_ | refine i_s0 rfl ?_ | refine c_leaf ?_ | refine i_gt rfl ?_ | refine i_gf rfl ?_ | refine i_gd rfl ?_ | refine c_t rfl ?_ | refine c_f rfl ?_ | refine i_conv rfl (by simp only [InR, List.length_map]; omega) ?_ | refine i_add rfl rfl (by simp only [InR, List.length_map]; omega) ?_ | refine i_sub rfl rfl (by simp only [InR, List.length_map]; omega) ?_ | refine i_ixm rfl rfl (by assumption) ?_ | refine i_iai rfl rfl (by omega) (by assumption) rfl ?_ | refine i_iam rfl rfl (by assumption) rfl ?_ | refine i_tk rfl rfl (by omega) ?_ | refine i_stb rfl ?_ | refine i_alloc rfl ?_ | refine i_box rfl rfl ?_ | refine i_nv rfl ?_ | refine c_node ?_ ?_ | refine i_g rfl (fun h => ?_) (fun h => ?_) | refine c_cond rfl (fun h => ?_) (fun h => ?_))
  refine e_ret ⟨rfl, _, rfl, congrArg V.bool (fidx_any p l).symm⟩


theorem szAt_ok {sizes : List Int} {v : Int} (h0 : 0 ≤ v) (h1 : v < sizes.length) : ∃ z, sizes[v.toNat]? = some z ∧ szAt sizes v = some z := by
  obtain ⟨z, hz⟩ := get_some (l := sizes) (k := v.toNat) (by omega)
  exact ⟨z, hz, by simp [szAt, hz]; omega⟩
theorem szAt_no {sizes : List Int} {v : Int} (h : ¬ (0 ≤ v ∧ v < sizes.length)) : szAt sizes v = none := by
  unfold szAt
  split
  · rfl
  · rw [List.getElem?_eq_none (by omega)]
/-- The assignment before, at hand. -/
theorem prev_get {l : List Asg} {k : Nat} {a : Asg} (hk : l[k]? = some a) (v : Int) : (k = 0) ∨ ∃ b, 0 < k ∧ l[((k : Int) - 1).toNat]? = some b ∧ asPrev l k v = decide (b.var < v) := by
  by_cases h : k = 0
  · exact .inl h
  · obtain ⟨b, hb⟩ := get_some (l := l) (k := k - 1) (by have := get_lt hk; omega)
    exact .inr ⟨b, by omega, by rw [show ((k : Int) - 1).toNat = k - 1 from by omega]; exact hb, by simp [asPrev, hb]⟩
end Hm
end

section
/- Contracts: assignments. -/
namespace Hm
open Go
set_option maxRecDepth 100000
set_option maxHeartbeats 1000000
set_option linter.unusedSimpArgs false
set_option linter.unusedVariables false
def c_R1_Assigns : Cmd :=
  (.seq
   (.ops [
   .op (some 2) none (.box 4224132 4 (.t 0)),
   .op (some 4) none (.mov (.c (.bool false)))])
   (.cut
   (.seq
   (.seq
   (.ops [
   .op (some 5) none (.mov (.c (.int .i64 (0))))])
   (.cut
   (.block 0
   (.loop
   (.seq
   (.seq
   (.ops [
   .op (some 6) none (.mov (.t 5)),
   .op (some 7) none (.mov (.t 1)),
   .op (some 8) none (.len false (.t 7)),
   .op (some 9) none (.bin .lss false [] (.t 6) (.t 8))])
   (.cut
   (.cond (.t 9)
   .skip
   (.exit 0))))
   (.cut
   (.seq
   (.block 1
   (.seq
   (.ops [
   .op (some 12) none (.mov (.t 1)),
   .op (some 13) none (.mov (.t 5)),
   .op (some 14) none (.iaddr 2 (.t 12) (.t 13)),
   .op (some 15) none (.faddr 0 (.t 14)),
   .op (some 16) none (.load false 1 (.t 15)),
   .op (some 17) none (.faddr 0 (.t 2)),
   .op (some 18) none (.load false 1 (.t 17)),
   .op (some 19) none (.len false (.t 18)),
   .op (some 20) none (.bin .sub false [] (.t 19) (.c (.int .i64 (1)))),
   .op (some 21) none (.call .f (.c (.fn 27 [])) [.t 16, .c (.int .i64 (0)), .t 20]),
   .op (some 22) none (.not (.t 21)),
   .op (some 23) none (.mov (.t 22)),
   .op (some 24) (some (23, false)) (.mov (.t 1)),
   .op (some 25) (some (23, false)) (.mov (.t 5)),
   .op (some 26) (some (23, false)) (.iaddr 2 (.t 24) (.t 25)),
   .op (some 27) (some (23, false)) (.faddr 1 (.t 26)),
   .op (some 28) (some (23, false)) (.load false 1 (.t 27)),
   .op (some 29) (some (23, false)) (.faddr 0 (.t 2)),
   .op (some 30) (some (23, false)) (.load false 1 (.t 29)),
   .op (some 31) (some (23, false)) (.mov (.t 1)),
   .op (some 32) (some (23, false)) (.mov (.t 5)),
   .op (some 33) (some (23, false)) (.iaddr 2 (.t 31) (.t 32)),
   .op (some 34) (some (23, false)) (.faddr 0 (.t 33)),
   .op (some 35) (some (23, false)) (.load false 1 (.t 34)),
   .op (some 36) (some (23, false)) (.iaddr 1 (.t 30) (.t 35)),
   .op (some 37) (some (23, false)) (.load false 1 (.t 36)),
   .op (some 38) (some (23, false)) (.bin .sub false [] (.t 37) (.c (.int .i64 (1)))),
   .op (some 39) (some (23, false)) (.call .f (.c (.fn 27 [])) [.t 28, .c (.int .i64 (0)), .t 38]),
   .op (some 40) (some (23, false)) (.not (.t 39)),
   .op (some 41) none (.pick (.t 23) (.c (.bool true)) (.t 40)),
   .op (some 42) none (.mov (.t 41)),
   .op (some 43) (some (42, false)) (.mov (.t 5)),
   .op (some 44) (some (42, false)) (.bin .gtr false [] (.t 43) (.c (.int .i64 (0)))),
   .op (some 45) (some (42, false)) (.mov (.t 44)),
   .op (some 46) (some (45, true)) (.mov (.t 1)),
   .op (some 47) (some (45, true)) (.mov (.t 5)),
   .op (some 48) (some (45, true)) (.iaddr 2 (.t 46) (.t 47)),
   .op (some 49) (some (45, true)) (.faddr 0 (.t 48)),
   .op (some 50) (some (45, true)) (.load false 1 (.t 49)),
   .op (some 51) (some (45, true)) (.mov (.t 1)),
   .op (some 52) (some (45, true)) (.mov (.t 5)),
   .op (some 53) (some (45, true)) (.bin .sub false [] (.t 52) (.c (.int .i64 (1)))),
   .op (some 54) (some (45, true)) (.iaddr 2 (.t 51) (.t 53)),
   .op (some 55) (some (45, true)) (.faddr 0 (.t 54)),
   .op (some 56) (some (45, true)) (.load false 1 (.t 55)),
   .op (some 57) (some (45, true)) (.bin .leq false [] (.t 50) (.t 56)),
   .op (some 58) (some (42, false)) (.pick (.t 45) (.t 57) (.c (.bool false))),
   .op (some 59) none (.pick (.t 42) (.c (.bool true)) (.t 58))])
   (.cut
   (.cond (.t 59)
   (.seq
   (.ops [
   .op (some 4) none (.mov (.c (.bool false)))])
   .ret)
   .skip))))
   (.cut
   (.ops [
   .op (some 10) none (.mov (.t 5)),
   .op (some 11) none (.bin .add false [] (.t 10) (.c (.int .i64 (1)))),
   .op (some 5) none (.mov (.t 11))])))))))))
   (.cut
   (.seq
   (.ops [
   .op (some 4) none (.mov (.c (.bool true)))])
   .ret)))))
def r_R1_Assigns : List RVar := [.tmp 4]
def n_R1_Assigns : Nat := 60
theorem k_R1_Assigns : chkFn Go.Proofs.Try.prog 66 n_R1_Assigns r_R1_Assigns c_R1_Assigns = true := by kernel_rfl
theorem f_R1_Assigns (m : MTask) (l : List Asg) (hl : l.length ≤ 140737488355328) (hsz : m.sizes.length ≤ 140737488355328) (hz : ∀ z ∈ m.sizes, 1 ≤ z ∧ z ≤ 6) : Fc Go.Proofs.Try.prog 66 [mtV m, .sl .p (l.map asV)] (.bool (asB m.sizes l)) := by
  refine Fn.step mixed k_R1_Assigns ?_
  repeat' (first | refine i_len rfl ?_ | refine i_s rfl ?_ | refine c_seq ?_ | refine c_cut0 ?_ | refine c_ops ?_ | refine i_nil ?_ | refine e_seq ?_ | refine e_block ?_ | refine c_block ?_ | refine c_skip ?_ | refine c_ret ?_ | refine c_exit ?_ | refine e_exit rfl ?_ | refine i_s0 rfl ?_ | refine c_leaf ?_ | refine i_gt rfl ?_ | refine i_gf rfl ?_ | refine i_gd rfl ?_ | refine c_t rfl ?_ | refine c_f rfl ?_ | refine i_conv rfl (by simp only [InR, List.length_map]; omega) ?_ | refine i_add rfl rfl (by simp only [InR, List.length_map]; omega) ?_ | refine i_sub rfl rfl (by simp only [InR, List.length_map]; omega) ?_ | refine i_ixm rfl rfl (by assumption) ?_ | refine i_iai rfl rfl (by omega) (by assumption) rfl ?_ | refine i_iam rfl rfl (by assumption) rfl ?_ | refine i_tk rfl rfl (by omega) ?_ | refine i_stb rfl ?_ | refine i_alloc rfl ?_ | refine i_box rfl rfl ?_ | refine i_nv rfl ?_ | refine c_node ?_ ?_ | refine i_g rfl (fun h => ?_) (fun h => ?_) | refine c_cond rfl (fun h => ?_) (fun h => ?_))
  refine c_for l.length (fun k => [(1, .sl .p (l.map asV)), (2, .bptr 4224132 0), (5, .int .i64 k)]) (fun _ => [(4224132, .box (mtV m))]) (fun k => ∀ j, j < k → asAt m.sizes l j = true) all_zero ⟨by repeat (first | exact trivial | refine ⟨rfl, ?_⟩), by repeat (first | exact trivial | refine ⟨rfl, ?_⟩), rfl⟩ fun k hk hi => ?_
  repeat (first | refine i_len rfl ?_ | refine i_s rfl ?_ | refine c_seq ?_ | refine c_cut0 ?_ | refine c_ops ?_ | refine i_nil ?_ | refine e_seq ?_ | refine e_block ?_ | refine c_block ?_ | refine c_skip ?_ | refine c_ret ?_ | refine c_exit ?_ | refine e_exit rfl ?_ | refine i_s0 rfl ?_ | refine c_leaf ?_ | refine i_gt rfl ?_ | refine i_gf rfl ?_ | refine i_gd rfl ?_ | refine c_t rfl ?_ | refine c_f rfl ?_ | refine i_conv rfl (by simp only [InR, List.length_map]; omega) ?_ | refine i_add rfl rfl (by simp only [InR, List.length_map]; omega) ?_ | refine i_sub rfl rfl (by simp only [InR, List.length_map]; omega) ?_ | refine i_ixm rfl rfl (by assumption) ?_ | refine i_iai rfl rfl (by omega) (by assumption) rfl ?_ | refine i_iam rfl rfl (by assumption) rfl ?_ | refine i_tk rfl rfl (by omega) ?_ | refine i_stb rfl ?_ | refine i_alloc rfl ?_ | refine i_box rfl rfl ?_ | refine i_nv rfl ?_)
  refine c_cond rfl (fun h => ?_) (fun h => ?_)
  · have hlt : k < l.length := by simpa using h
    obtain ⟨a, ha⟩ := get_some hlt
    clear h
    have bad : asAt m.sizes l k = false → V.bool (asB m.sizes l) = V.bool false := fun h => by rw [asB, allN_bad hlt h]
    have next : asAt m.sizes l k = true → ∀ j, j < k + 1 → asAt m.sizes l j = true := fun h => all_succ hi h
    clear hi
    by_cases hv : 0 ≤ a.var ∧ a.var < m.sizes.length
    · obtain ⟨z, hzz, hsa⟩ := szAt_ok hv.1 hv.2
      have hzb := hz z (mem_get hzz)
      obtain ⟨hv0, hv1⟩ := hv
      have hat : asAt m.sizes l k = (decide (0 ≤ a.value) && decide (a.value < z) && (decide (k = 0) || asPrev l k a.var)) := by simp [asAt, ha, hsa]
      rcases prev_get ha a.var with h0 | ⟨b, hk0, hb, hpv⟩
      · repeat' (first | refine i_len rfl ?_ | refine i_s rfl ?_ | refine c_seq ?_ | refine c_cut0 ?_ | refine c_ops ?_ | refine i_nil ?_ | refine e_seq ?_ | refine e_block ?_ | refine c_block ?_ | refine c_skip ?_ | refine c_ret ?_ | refine c_exit ?_ | refine e_exit rfl ?_ | refine i_s0 rfl ?_ | refine c_leaf ?_ | refine i_gt rfl ?_ | refine i_gf rfl ?_ | refine i_gd rfl ?_ | refine c_t rfl ?_ | refine c_f rfl ?_ | refine i_conv rfl (by simp only [InR, List.length_map]; omega) ?_ | refine i_add rfl rfl (by simp only [InR, List.length_map]; omega) ?_ | refine i_sub rfl rfl (by simp only [InR, List.length_map]; omega) ?_ | refine i_ixm rfl rfl (by assumption) ?_ | refine i_iai rfl rfl (by omega) (by assumption) rfl ?_ | refine i_iam rfl rfl (by assumption) rfl ?_ | refine i_tk rfl rfl (by omega) ?_ | refine i_stb rfl ?_ | refine i_alloc rfl ?_ | refine i_box rfl rfl ?_ | refine i_nv rfl ?_ | refine c_node ?_ ?_ | refine i_g rfl (fun h => ?_) (fun h => ?_) | refine c_cond rfl (fun h => ?_) (fun h => ?_) | refine i_f rfl rfl (f_R1_In _ _ _) rfl ?_)
        all_goals first
          | refine e_for hlt (next ?_) ⟨by repeat (first | exact trivial | refine ⟨rfl, ?_⟩), by repeat (first | exact trivial | refine ⟨rfl, ?_⟩), rfl⟩
          | refine e_ret ⟨rfl, _, rfl, bad ?_⟩
          | exfalso
        all_goals clear next bad hz ha hzz hsa
        all_goals try rw [hat]
        all_goals clear hat
        all_goals grind
      · rw [hpv] at hat
        repeat' (first | refine i_len rfl ?_ | refine i_s rfl ?_ | refine c_seq ?_ | refine c_cut0 ?_ | refine c_ops ?_ | refine i_nil ?_ | refine e_seq ?_ | refine e_block ?_ | refine c_block ?_ | refine c_skip ?_ | refine c_ret ?_ | refine c_exit ?_ | refine e_exit rfl ?_ | refine i_s0 rfl ?_ | refine c_leaf ?_ | refine i_gt rfl ?_ | refine i_gf rfl ?_ | refine i_gd rfl ?_ | refine c_t rfl ?_ | refine c_f rfl ?_ | refine i_conv rfl (by simp only [InR, List.length_map]; omega) ?_ | refine i_add rfl rfl (by simp only [InR, List.length_map]; omega) ?_ | refine i_sub rfl rfl (by simp only [InR, List.length_map]; omega) ?_ | refine i_ixm rfl rfl (by assumption) ?_ | refine i_iai rfl rfl (by omega) (by assumption) rfl ?_ | refine i_iam rfl rfl (by assumption) rfl ?_ | refine i_tk rfl rfl (by omega) ?_ | refine i_stb rfl ?_ | refine i_alloc rfl ?_ | refine i_box rfl rfl ?_ | refine i_nv rfl ?_ | refine c_node ?_ ?_ | refine i_g rfl (fun h => ?_) (fun h => ?_) | refine c_cond rfl (fun h => ?_) (fun h => ?_) | refine i_f rfl rfl (f_R1_In _ _ _) rfl ?_)
        all_goals first
          | refine e_for hlt (next ?_) ⟨by repeat (first | exact trivial | refine ⟨rfl, ?_⟩), by repeat (first | exact trivial | refine ⟨rfl, ?_⟩), rfl⟩
          | refine e_ret ⟨rfl, _, rfl, bad ?_⟩
          | exfalso
        all_goals clear next bad hz ha hzz hsa
        all_goals try rw [hat]
        all_goals clear hat
        all_goals grind
    · have hat : asAt m.sizes l k = false := by simp [asAt, ha, szAt_no hv]
      repeat' (first | refine i_len rfl ?_ | refine i_s rfl ?_ | refine c_seq ?_ | refine c_cut0 ?_ | refine c_ops ?_ | refine i_nil ?_ | refine e_seq ?_ | refine e_block ?_ | refine c_block ?_ | refine c_skip ?_ | refine c_ret ?_ | refine c_exit ?_ | refine e_exit rfl ?_ | refine i_s0 rfl ?_ | refine c_leaf ?_ | refine i_gt rfl ?_ | refine i_gf rfl ?_ | refine i_gd rfl ?_ | refine c_t rfl ?_ | refine c_f rfl ?_ | refine i_conv rfl (by simp only [InR, List.length_map]; omega) ?_ | refine i_add rfl rfl (by simp only [InR, List.length_map]; omega) ?_ | refine i_sub rfl rfl (by simp only [InR, List.length_map]; omega) ?_ | refine i_ixm rfl rfl (by assumption) ?_ | refine i_iai rfl rfl (by omega) (by assumption) rfl ?_ | refine i_iam rfl rfl (by assumption) rfl ?_ | refine i_tk rfl rfl (by omega) ?_ | refine i_stb rfl ?_ | refine i_alloc rfl ?_ | refine i_box rfl rfl ?_ | refine i_nv rfl ?_ | refine c_node ?_ ?_ | refine i_g rfl (fun h => ?_) (fun h => ?_) | refine c_cond rfl (fun h => ?_) (fun h => ?_) | refine i_f rfl rfl (f_R1_In _ _ _) rfl ?_)
      all_goals first
        | exact e_ret ⟨rfl, _, rfl, bad hat⟩
        | (exfalso; clear next bad hz ha hat; grind)
  · have hge : ¬ k < l.length := by simpa using h
    repeat' (first | refine i_len rfl ?_ | refine i_s rfl ?_ | refine c_seq ?_ | refine c_cut0 ?_ | refine c_ops ?_ | refine i_nil ?_ | refine e_seq ?_ | refine e_block ?_ | refine c_block ?_ | refine c_skip ?_ | refine c_ret ?_ | refine c_exit ?_ | refine e_exit rfl ?_ | refine i_s0 rfl ?_ | refine c_leaf ?_ | refine i_gt rfl ?_ | refine i_gf rfl ?_ | refine i_gd rfl ?_ | refine c_t rfl ?_ | refine c_f rfl ?_ | refine i_conv rfl (by simp only [InR, List.length_map]; omega) ?_ | refine i_add rfl rfl (by simp only [InR, List.length_map]; omega) ?_ | refine i_sub rfl rfl (by simp only [InR, List.length_map]; omega) ?_ | refine i_ixm rfl rfl (by assumption) ?_ | refine i_iai rfl rfl (by omega) (by assumption) rfl ?_ | refine i_iam rfl rfl (by assumption) rfl ?_ | refine i_tk rfl rfl (by omega) ?_ | refine i_stb rfl ?_ | refine i_alloc rfl ?_ | refine i_box rfl rfl ?_ | refine i_nv rfl ?_ | refine c_node ?_ ?_ | refine i_g rfl (fun h => ?_) (fun h => ?_) | refine c_cond rfl (fun h => ?_) (fun h => ?_))
    exact e_ret ⟨rfl, _, rfl, congrArg V.bool (allN_ok fun j hj => hi j (by omega))⟩
def c_multi_assigns : Cmd :=
  (.seq
   (.ops [
   .op (some 2) none (.box 4608132 4 (.t 0)),
   .op (some 4) none (.mov (.c (.bool false)))])
   (.cut
   (.seq
   (.seq
   (.ops [
   .op (some 7) none (.mov (.t 1)),
   .op (some 8) none (.len false (.t 7)),
   .op (some 9) none (.mov (.c (.int .i64 (0))))])
   (.cut
   (.block 0
   (.loop
   (.seq
   (.ops [
   .op (some 10) none (.bin .lss false [] (.t 9) (.t 8))])
   (.cut
   (.seq
   (.cond (.t 10)
   .skip
   (.exit 0))
   (.cut
   (.seq
   (.block 1
   (.seq
   (.ops [
   .op (some 11) none (.mov (.t 9)),
   .op (some 12) none (.iaddr 2 (.t 7) (.t 9)),
   .op (some 13) none (.load true 2 (.t 12)),
   .op (some 6) none (.alloc 4608386 (.agg [.int .i64 (0), .int .i64 (0)])),
   .op (some 5) none (.mov (.t 11)),
   .op none none (.store 2 (.t 6) (.t 13))])
   (.cut
   (.seq
   (.ops [
   .op (some 14) none (.faddr 0 (.t 6)),
   .op (some 15) none (.load false 1 (.t 14)),
   .op (some 16) none (.bin .lss false [] (.t 15) (.c (.int .i64 (0)))),
   .op (some 17) none (.mov (.t 16)),
   .op (some 18) (some (17, false)) (.faddr 0 (.t 6)),
   .op (some 19) (some (17, false)) (.load false 1 (.t 18)),
   .op (some 20) (some (17, false)) (.faddr 0 (.t 2)),
   .op (some 21) (some (17, false)) (.load false 1 (.t 20)),
   .op (some 22) (some (17, false)) (.len false (.t 21)),
   .op (some 23) (some (17, false)) (.bin .geq false [] (.t 19) (.t 22)),
   .op (some 24) none (.pick (.t 17) (.c (.bool true)) (.t 23)),
   .op (some 25) none (.mov (.t 24)),
   .op (some 26) (some (25, false)) (.faddr 1 (.t 6)),
   .op (some 27) (some (25, false)) (.load false 1 (.t 26)),
   .op (some 28) (some (25, false)) (.bin .lss false [] (.t 27) (.c (.int .i64 (0)))),
   .op (some 29) none (.pick (.t 25) (.c (.bool true)) (.t 28)),
   .op (some 30) none (.mov (.t 29)),
   .op (some 31) (some (30, false)) (.faddr 1 (.t 6)),
   .op (some 32) (some (30, false)) (.load false 1 (.t 31)),
   .op (some 33) (some (30, false)) (.faddr 0 (.t 2)),
   .op (some 34) (some (30, false)) (.load false 1 (.t 33)),
   .op (some 35) (some (30, false)) (.faddr 0 (.t 6)),
   .op (some 36) (some (30, false)) (.load false 1 (.t 35)),
   .op (some 37) (some (30, false)) (.iaddr 1 (.t 34) (.t 36)),
   .op (some 38) (some (30, false)) (.load false 1 (.t 37)),
   .op (some 39) (some (30, false)) (.bin .geq false [] (.t 32) (.t 38)),
   .op (some 40) none (.pick (.t 30) (.c (.bool true)) (.t 39)),
   .op (some 41) none (.mov (.t 40)),
   .op (some 42) (some (41, false)) (.mov (.t 5)),
   .op (some 43) (some (41, false)) (.bin .gtr false [] (.t 42) (.c (.int .i64 (0)))),
   .op (some 44) (some (41, false)) (.mov (.t 43)),
   .op (some 45) (some (44, true)) (.faddr 0 (.t 6)),
   .op (some 46) (some (44, true)) (.load false 1 (.t 45)),
   .op (some 47) (some (44, true)) (.mov (.t 1)),
   .op (some 48) (some (44, true)) (.mov (.t 5)),
   .op (some 49) (some (44, true)) (.bin .sub false [] (.t 48) (.c (.int .i64 (1)))),
   .op (some 50) (some (44, true)) (.iaddr 2 (.t 47) (.t 49)),
   .op (some 51) (some (44, true)) (.faddr 0 (.t 50)),
   .op (some 52) (some (44, true)) (.load false 1 (.t 51)),
   .op (some 53) (some (44, true)) (.bin .leq false [] (.t 46) (.t 52)),
   .op (some 54) (some (41, false)) (.pick (.t 44) (.t 53) (.c (.bool false))),
   .op (some 55) none (.pick (.t 41) (.c (.bool true)) (.t 54))])
   (.cut
   (.cond (.t 55)
   (.seq
   (.ops [
   .op (some 4) none (.mov (.c (.bool false)))])
   .ret)
   .skip))))))
   (.cut
   (.ops [
   .op (some 56) none (.bin .add false [] (.t 9) (.c (.int .i64 (1)))),
   .op (some 9) none (.mov (.t 56))])))))))))))
   (.cut
   (.seq
   (.ops [
   .op (some 4) none (.mov (.c (.bool true)))])
   .ret)))))
def r_multi_assigns : List RVar := [.tmp 4]
def n_multi_assigns : Nat := 57
theorem k_multi_assigns : chkFn Go.Proofs.Try.prog 72 n_multi_assigns r_multi_assigns c_multi_assigns = true := by kernel_rfl
theorem f_multi_assigns (m : MTask) (l : List Asg) (hl : l.length ≤ 140737488355328) (hsz : m.sizes.length ≤ 140737488355328) : Fc Go.Proofs.Try.prog 72 [mtV m, .sl .p (l.map asV)] (.bool (asB m.sizes l)) := by
  refine Fn.step mixed k_multi_assigns ?_
  repeat' (first | refine i_len rfl ?_ | refine i_s rfl ?_ | refine c_seq ?_ | refine c_cut0 ?_ | refine c_ops ?_ | refine i_nil ?_ | refine e_seq ?_ | refine e_block ?_ | refine c_block ?_ | refine c_skip ?_ | refine c_ret ?_ | refine c_exit ?_ | refine e_exit rfl ?_ | refine i_s0 rfl ?_ | refine c_leaf ?_ | refine i_gt rfl ?_ | refine i_gf rfl ?_ | refine i_gd rfl ?_ | refine c_t rfl ?_ | refine c_f rfl ?_ | refine i_conv rfl (by simp only [InR, List.length_map]; omega) ?_ | refine i_add rfl rfl (by simp only [InR, List.length_map]; omega) ?_ | refine i_sub rfl rfl (by simp only [InR, List.length_map]; omega) ?_ | refine i_ixm rfl rfl (by assumption) ?_ | refine i_iai rfl rfl (by omega) (by assumption) rfl ?_ | refine i_iam rfl rfl (by assumption) rfl ?_ | refine i_tk rfl rfl (by omega) ?_ | refine i_stb rfl ?_ | refine i_alloc rfl ?_ | refine i_box rfl rfl ?_ | refine i_nv rfl ?_ | refine c_node ?_ ?_ | refine i_g rfl (fun h => ?_) (fun h => ?_) | refine c_cond rfl (fun h => ?_) (fun h => ?_))
  refine c_for l.length (fun k => [(1, .sl .p (l.map asV)), (2, .bptr 4608132 0), (7, .sl .p (l.map asV)), (8, .int .i64 l.length), (9, .int .i64 k)]) (fun _ => [(4608132, .box (mtV m))]) (fun k => ∀ j, j < k → asAt m.sizes l j = true) all_zero ⟨by repeat (first | exact trivial | refine ⟨rfl, ?_⟩), by repeat (first | exact trivial | refine ⟨rfl, ?_⟩), rfl⟩ fun k hk hi => ?_
  repeat (first | refine i_len rfl ?_ | refine i_s rfl ?_ | refine c_seq ?_ | refine c_cut0 ?_ | refine c_ops ?_ | refine i_nil ?_ | refine e_seq ?_ | refine e_block ?_ | refine c_block ?_ | refine c_skip ?_ | refine c_ret ?_ | refine c_exit ?_ | refine e_exit rfl ?_ | refine i_s0 rfl ?_ | refine c_leaf ?_ | refine i_gt rfl ?_ | refine i_gf rfl ?_ | refine i_gd rfl ?_ | refine c_t rfl ?_ | refine c_f rfl ?_ | refine i_conv rfl (by simp only [InR, List.length_map]; omega) ?_ | refine i_add rfl rfl (by simp only [InR, List.length_map]; omega) ?_ | refine i_sub rfl rfl (by simp only [InR, List.length_map]; omega) ?_ | refine i_ixm rfl rfl (by assumption) ?_ | refine i_iai rfl rfl (by omega) (by assumption) rfl ?_ | refine i_iam rfl rfl (by assumption) rfl ?_ | refine i_tk rfl rfl (by omega) ?_ | refine i_stb rfl ?_ | refine i_alloc rfl ?_ | refine i_box rfl rfl ?_ | refine i_nv rfl ?_)
  refine c_cond rfl (fun h => ?_) (fun h => ?_)
  · have hlt : k < l.length := by simpa using h
    obtain ⟨a, ha⟩ := get_some hlt
    clear h
    have bad : asAt m.sizes l k = false → V.bool (asB m.sizes l) = V.bool false := fun h => by rw [asB, allN_bad hlt h]
    have next : asAt m.sizes l k = true → ∀ j, j < k + 1 → asAt m.sizes l j = true := fun h => all_succ hi h
    clear hi
    by_cases hv : 0 ≤ a.var ∧ a.var < m.sizes.length
    · obtain ⟨z, hzz, hsa⟩ := szAt_ok hv.1 hv.2
      obtain ⟨hv0, hv1⟩ := hv
      have hat : asAt m.sizes l k = (decide (0 ≤ a.value) && decide (a.value < z) && (decide (k = 0) || asPrev l k a.var)) := by simp [asAt, ha, hsa]
      rcases prev_get ha a.var with h0 | ⟨b, hk0, hb, hpv⟩
      · repeat' (first | refine i_len rfl ?_ | refine i_s rfl ?_ | refine c_seq ?_ | refine c_cut0 ?_ | refine c_ops ?_ | refine i_nil ?_ | refine e_seq ?_ | refine e_block ?_ | refine c_block ?_ | refine c_skip ?_ | refine c_ret ?_ | refine c_exit ?_ | refine e_exit rfl ?_ | refine i_s0 rfl ?_ | refine c_leaf ?_ | refine i_gt rfl ?_ | refine i_gf rfl ?_ | refine i_gd rfl ?_ | refine c_t rfl ?_ | refine c_f rfl ?_ | refine i_conv rfl (by simp only [InR, List.length_map]; omega) ?_ | refine i_add rfl rfl (by simp only [InR, List.length_map]; omega) ?_ | refine i_sub rfl rfl (by simp only [InR, List.length_map]; omega) ?_ | refine i_ixm rfl rfl (by assumption) ?_ | refine i_iai rfl rfl (by omega) (by assumption) rfl ?_ | refine i_iam rfl rfl (by assumption) rfl ?_ | refine i_tk rfl rfl (by omega) ?_ | refine i_stb rfl ?_ | refine i_alloc rfl ?_ | refine i_box rfl rfl ?_ | refine i_nv rfl ?_ | refine c_node ?_ ?_ | refine i_g rfl (fun h => ?_) (fun h => ?_) | refine c_cond rfl (fun h => ?_) (fun h => ?_))
        all_goals first
          | refine e_for hlt (next ?_) ⟨by repeat (first | exact trivial | refine ⟨rfl, ?_⟩), by repeat (first | exact trivial | refine ⟨rfl, ?_⟩), rfl⟩
          | refine e_ret ⟨rfl, _, rfl, bad ?_⟩
          | exfalso
        all_goals clear next bad ha hzz hsa
        all_goals try rw [hat]
        all_goals clear hat
        all_goals grind
      · rw [hpv] at hat
        repeat' (first | refine i_len rfl ?_ | refine i_s rfl ?_ | refine c_seq ?_ | refine c_cut0 ?_ | refine c_ops ?_ | refine i_nil ?_ | refine e_seq ?_ | refine e_block ?_ | refine c_block ?_ | refine c_skip ?_ | refine c_ret ?_ | refine c_exit ?_ | refine e_exit rfl ?_ | refine i_s0 rfl ?_ | refine c_leaf ?_ | refine i_gt rfl ?_ | refine i_gf rfl ?_ | refine i_gd rfl ?_ | refine c_t rfl ?_ | refine c_f rfl ?_ | refine i_conv rfl (by simp only [InR, List.length_map]; omega) ?_ | refine i_add rfl rfl (by simp only [InR, List.length_map]; omega) ?_ | refine i_sub rfl rfl (by simp only [InR, List.length_map]; omega) ?_ | refine i_ixm rfl rfl (by assumption) ?_ | refine i_iai rfl rfl (by omega) (by assumption) rfl ?_ | refine i_iam rfl rfl (by assumption) rfl ?_ | refine i_tk rfl rfl (by omega) ?_ | refine i_stb rfl ?_ | refine i_alloc rfl ?_ | refine i_box rfl rfl ?_ | refine i_nv rfl ?_ | refine c_node ?_ ?_ | refine i_g rfl (fun h => ?_) (fun h => ?_) | refine c_cond rfl (fun h => ?_) (fun h => ?_))
        all_goals first
          | refine e_for hlt (next ?_) ⟨by repeat (first | exact trivial | refine ⟨rfl, ?_⟩), by repeat (first | exact trivial | refine ⟨rfl, ?_⟩), rfl⟩
          | refine e_ret ⟨rfl, _, rfl, bad ?_⟩
          | exfalso
        all_goals clear next bad ha hzz hsa
        all_goals try rw [hat]
        all_goals clear hat
        all_goals grind
    · have hat : asAt m.sizes l k = false := by simp [asAt, ha, szAt_no hv]
      repeat' (first | refine i_len rfl ?_ | refine i_s rfl ?_ | refine c_seq ?_ | refine c_cut0 ?_ | refine c_ops ?_ | refine i_nil ?_ | refine e_seq ?_ | refine e_block ?_ | refine c_block ?_ | refine c_skip ?_ | refine c_ret ?_ | refine c_exit ?_ | refine e_exit rfl ?_ | refine i_s0 rfl ?_ | refine c_leaf ?_ | refine i_gt rfl ?_ | refine i_gf rfl ?_ | refine i_gd rfl ?_ | refine c_t rfl ?_ | refine c_f rfl ?_ | refine i_conv rfl (by simp only [InR, List.length_map]; omega) ?_ | refine i_add rfl rfl (by simp only [InR, List.length_map]; omega) ?_ | refine i_sub rfl rfl (by simp only [InR, List.length_map]; omega) ?_ | refine i_ixm rfl rfl (by assumption) ?_ | refine i_iai rfl rfl (by omega) (by assumption) rfl ?_ | refine i_iam rfl rfl (by assumption) rfl ?_ | refine i_tk rfl rfl (by omega) ?_ | refine i_stb rfl ?_ | refine i_alloc rfl ?_ | refine i_box rfl rfl ?_ | refine i_nv rfl ?_ | refine c_node ?_ ?_ | refine i_g rfl (fun h => ?_) (fun h => ?_) | refine c_cond rfl (fun h => ?_) (fun h => ?_))
      all_goals first
        | exact e_ret ⟨rfl, _, rfl, bad hat⟩
        | (exfalso; clear next bad ha hat; grind)
  · have hge : ¬ k < l.length := by simpa using h
    repeat' (first | refine i_len rfl ?_ | refine i_s rfl ?_ | refine c_seq ?_ | refine c_cut0 ?_ | refine c_ops ?_ | refine i_nil ?_ | refine e_seq ?_ | refine e_block ?_ | refine c_block ?_ | refine c_skip ?_ | refine c_ret ?_ | refine c_exit ?_ | refine e_exit rfl ?_ | refine i_s0 rfl ?_ | refine c_leaf ?_ | refine i_gt rfl ?_ | refine i_gf rfl ?_ | refine i_gd rfl ?_ | refine c_t rfl ?_ | refine c_f rfl ?_ | refine i_conv rfl (by simp only [InR, List.length_map]; omega) ?_ | refine i_add rfl rfl (by simp only [InR, List.length_map]; omega) ?_ | refine i_sub rfl rfl (by simp only [InR, List.length_map]; omega) ?_ | refine i_ixm rfl rfl (by assumption) ?_ | refine i_iai rfl rfl (by omega) (by assumption) rfl ?_ | refine i_iam rfl rfl (by assumption) rfl ?_ | refine i_tk rfl rfl (by omega) ?_ | refine i_stb rfl ?_ | refine i_alloc rfl ?_ | refine i_box rfl rfl ?_ | refine i_nv rfl ?_ | refine c_node ?_ ?_ | refine i_g rfl (fun h => ?_) (fun h => ?_) | refine c_cond rfl (fun h => ?_) (fun h => ?_))
    exact e_ret ⟨rfl, _, rfl, congrArg V.bool (allN_ok fun j hj => hi j (by omega))⟩
end Hm
end

section
/- Contracts: faults of multi-valued tasks. -/
namespace Hm
open Go
set_option maxRecDepth 100000
set_option maxHeartbeats 1000000
set_option linter.unusedSimpArgs false
set_option linter.unusedVariables false
theorem mFault_sz {m : MTask} (h : m.sizes.length = 0 ∨ m.sizes.length > 8) : mFault m = ⟨2, -1⟩ := by unfold mFault; rw [if_pos h]
/-- The first three tests passed. -/
structure MF1 (m : MTask) : Prop where
  len : ¬ (m.sizes.length = 0 ∨ m.sizes.length > 8)
  sz : m.sizes.any szBad = false
theorem MF1.rng {m : MTask} (h : MF1 m) : ∀ z ∈ m.sizes, 1 ≤ z ∧ z ≤ 6 := by
  intro z hz
  have := (List.any_eq_false.1 h.sz) z hz
  simp [szBad] at this
  omega
theorem mFault_rg {m : MTask} (h : ¬ (m.sizes.length = 0 ∨ m.sizes.length > 8)) (h2 : m.sizes.any szBad = true) : mFault m = ⟨3, -1⟩ := by unfold mFault; rw [if_neg h, if_pos h2]
theorem mFault_in {m : MTask} (h : MF1 m) (h2 : stB m.sizes m.init = false) : mFault m = ⟨5, -2⟩ := by unfold mFault; rw [if_neg h.len, h.sz, if_neg (by simp), if_pos h2]
theorem mFault_go {m : MTask} (h : MF1 m) (h2 : stB m.sizes m.init = true) (h3 : asB m.sizes m.goal = false) : mFault m = ⟨5, -3⟩ := by unfold mFault; rw [if_neg h.len, h.sz, if_neg (by simp), h2, if_neg (by simp), if_pos h3]
theorem mFault_op {m : MTask} (h : MF1 m) (h2 : stB m.sizes m.init = true) (h3 : asB m.sizes m.goal = true) (h4 : m.ops.length > 40) : mFault m = ⟨2, -1⟩ := by unfold mFault; rw [if_neg h.len, h.sz, if_neg (by simp), h2, if_neg (by simp), h3, if_neg (by simp), if_pos h4]
theorem mFault_el {m : MTask} (h : MF1 m) (h2 : stB m.sizes m.init = true) (h3 : asB m.sizes m.goal = true) (h4 : ¬ m.ops.length > 40) : mFault m = (scan (opBad m.sizes m.ops) 0 m.ops.length).getD okF := by
  unfold mFault; rw [if_neg h.len, h.sz, if_neg (by simp), h2, if_neg (by simp), h3, if_neg (by simp), if_neg h4]
theorem mFault_hit {m : MTask} (hel : mFault m = (scan (opBad m.sizes m.ops) 0 m.ops.length).getD okF) {k : Nat} {f : Flt} (hi : ∀ j, j < k → opBad m.sizes m.ops j = none) (hk : k < m.ops.length) (hf : opBad m.sizes m.ops k = some f) : mFault m = f := by
  rw [hel, scan0_hit hi hk hf]; rfl
def c_multi_Validate_1 : Cmd :=
  (.seq
   (.ops [
   .op (some 2) none (.mov (.c (.bool false)))])
   (.cut
   (.seq
   (.ops [
   .op (some 3) none (.mov (.t 0)),
   .op (some 4) none (.bin .lss false [] (.t 3) (.c (.int .i64 (1)))),
   .op (some 5) none (.mov (.t 4)),
   .op (some 6) (some (5, false)) (.mov (.t 0)),
   .op (some 7) (some (5, false)) (.bin .gtr false [] (.t 6) (.c (.int .i64 (6)))),
   .op (some 8) none (.pick (.t 5) (.c (.bool true)) (.t 7)),
   .op (some 2) none (.mov (.t 8))])
   .ret)))
def r_multi_Validate_1 : List RVar := [.tmp 2]
def n_multi_Validate_1 : Nat := 9
theorem k_multi_Validate_1 : chkFn Go.Proofs.Try.prog 69 n_multi_Validate_1 r_multi_Validate_1 c_multi_Validate_1 = true := by kernel_rfl
theorem f_multi_Validate_1 (n : Int) : Fc Go.Proofs.Try.prog 69 [.int .i64 n] (.bool (szBad n)) := by
  refine Fn.step mixed k_multi_Validate_1 ?_
  repeat' (first | refine i_len rfl ?_ | refine i_s rfl ?_ | refine c_seq ?_ | refine c_cut0 ?_ | refine c_ops ?_ | refine i_nil ?_ | refine e_seq ?_ | refine e_block ?_ | refine c_block ?_ | refine c_skip ?_ | refine c_ret ?_ | refine c_exit ?_ | refine e_exit rfl ?_ | refine i_s0 rfl ?_ | refine c_leaf ?_ | refine i_gt rfl ?_ | refine i_gf rfl ?_ | refine i_gd rfl ?_ | refine c_t rfl ?_ | refine c_f rfl ?_ | refine i_conv rfl (by simp only [InR, List.length_map]; omega) ?_ | refine i_add rfl rfl (by simp only [InR, List.length_map]; omega) ?_ | refine i_sub rfl rfl (by simp only [InR, List.length_map]; omega) ?_ | refine i_ixm rfl rfl (by assumption) ?_ | refine i_iai rfl rfl (by omega) (by assumption) rfl ?_ | refine i_iam rfl rfl (by assumption) rfl ?_ | refine i_tk rfl rfl (by omega) ?_ | refine i_stb rfl ?_ | refine i_alloc rfl ?_ | refine i_box rfl rfl ?_ | refine i_nv rfl ?_ | refine c_node ?_ ?_ | refine i_g rfl (fun h => ?_) (fun h => ?_) | refine c_cond rfl (fun h => ?_) (fun h => ?_))
  all_goals refine e_ret ⟨rfl, _, rfl, congrArg V.bool ?_⟩
  all_goals unfold szBad
  all_goals grind
def c_multi_Validate : Cmd :=
  (.seq
   (.ops [
   .op (some 1) none (.box 1344068 4 (.t 0)),
   .op (some 2) none (.alloc 1344130 (.agg [.int .i64 (0), .int .i64 (0)]))])
   (.cut
   (.seq
   (.ops [
   .op (some 3) none (.mov (.c (.fn 69 [])))])
   (.cut
   (.seq
   (.block 0
   (.seq
   (.ops [
   .op (some 7) none (.faddr 0 (.t 1)),
   .op (some 8) none (.load false 1 (.t 7)),
   .op (some 9) none (.len false (.t 8)),
   .op (some 10) none (.bin .eql false [.i] (.t 9) (.c (.int .i64 (0)))),
   .op (some 11) none (.mov (.t 10)),
   .op (some 12) (some (11, false)) (.faddr 0 (.t 1)),
   .op (some 13) (some (11, false)) (.load false 1 (.t 12)),
   .op (some 14) (some (11, false)) (.len false (.t 13)),
   .op (some 15) (some (11, false)) (.bin .gtr false [] (.t 14) (.c (.int .i64 (8)))),
   .op (some 16) none (.pick (.t 11) (.c (.bool true)) (.t 15)),
   .op (some 6) none (.mov (.t 16))])
   (.cut
   (.cond (.t 6)
   (.seq
   (.ops [
   .op (some 17) none (.build [.int .i64 (0), .int .i64 (0)] [(0, 1, .c (.int .i64 (2))), (1, 1, .c (.int .i64 (-1)))]),
   .op none none (.store 2 (.t 2) (.t 17))])
   .ret)
   (.seq
   (.ops [
   .op (some 19) none (.faddr 0 (.t 1)),
   .op (some 20) none (.load false 1 (.t 19)),
   .op (some 21) none (.mov (.t 3)),
   .op (some 22) none (.call .f (.c (.fn 70 [])) [.t 20, .t 21]),
   .op (some 18) none (.mov (.t 22))])
   (.cut
   (.cond (.t 18)
   (.seq
   (.ops [
   .op (some 23) none (.build [.int .i64 (0), .int .i64 (0)] [(0, 1, .c (.int .i64 (3))), (1, 1, .c (.int .i64 (-1)))]),
   .op none none (.store 2 (.t 2) (.t 23))])
   .ret)
   (.seq
   (.ops [
   .op (some 25) none (.load true 4 (.t 1)),
   .op (some 26) none (.faddr 1 (.t 1)),
   .op (some 27) none (.load false 1 (.t 26)),
   .op (some 28) none (.call .f (.c (.fn 71 [])) [.t 25, .t 27]),
   .op (some 29) none (.not (.t 28)),
   .op (some 24) none (.mov (.t 29))])
   (.cut
   (.cond (.t 24)
   (.seq
   (.ops [
   .op (some 30) none (.build [.int .i64 (0), .int .i64 (0)] [(0, 1, .c (.int .i64 (5))), (1, 1, .c (.int .i64 (-2)))]),
   .op none none (.store 2 (.t 2) (.t 30))])
   .ret)
   (.seq
   (.ops [
   .op (some 32) none (.load true 4 (.t 1)),
   .op (some 33) none (.faddr 2 (.t 1)),
   .op (some 34) none (.load false 1 (.t 33)),
   .op (some 35) none (.call .f (.c (.fn 72 [])) [.t 32, .t 34]),
   .op (some 36) none (.not (.t 35)),
   .op (some 31) none (.mov (.t 36))])
   (.cut
   (.cond (.t 31)
   (.seq
   (.ops [
   .op (some 37) none (.build [.int .i64 (0), .int .i64 (0)] [(0, 1, .c (.int .i64 (5))), (1, 1, .c (.int .i64 (-3)))]),
   .op none none (.store 2 (.t 2) (.t 37))])
   .ret)
   (.seq
   (.ops [
   .op (some 39) none (.faddr 3 (.t 1)),
   .op (some 40) none (.load false 1 (.t 39)),
   .op (some 41) none (.len false (.t 40)),
   .op (some 42) none (.bin .gtr false [] (.t 41) (.c (.int .i64 (40)))),
   .op (some 38) none (.mov (.t 42))])
   (.cut
   (.cond (.t 38)
   (.seq
   (.ops [
   .op (some 43) none (.build [.int .i64 (0), .int .i64 (0)] [(0, 1, .c (.int .i64 (2))), (1, 1, .c (.int .i64 (-1)))]),
   .op none none (.store 2 (.t 2) (.t 43))])
   .ret)
   .skip))))))))))))))))
   (.cut
   (.seq
   (.seq
   (.ops [
   .op (some 44) none (.faddr 3 (.t 1)),
   .op (some 45) none (.load false 1 (.t 44)),
   .op (some 46) none (.len false (.t 45)),
   .op (some 47) none (.mov (.c (.int .i64 (0))))])
   (.cut
   (.block 1
   (.loop
   (.seq
   (.ops [
   .op (some 48) none (.bin .lss false [] (.t 47) (.t 46))])
   (.cut
   (.seq
   (.cond (.t 48)
   .skip
   (.exit 1))
   (.cut
   (.seq
   (.block 2
   (.seq
   (.ops [
   .op (some 49) none (.mov (.t 47)),
   .op (some 50) none (.iaddr 3 (.t 45) (.t 47)),
   .op (some 51) none (.load true 3 (.t 50)),
   .op (some 5) none (.alloc 1344323 (.agg [.sl .nil [], .sl .nil [], .int .i64 (0)])),
   .op (some 4) none (.mov (.t 49)),
   .op none none (.store 3 (.t 5) (.t 51))])
   (.cut
   (.block 3
   (.seq
   (.ops [
   .op (some 53) none (.load true 4 (.t 1)),
   .op (some 54) none (.faddr 0 (.t 5)),
   .op (some 55) none (.load false 1 (.t 54)),
   .op (some 56) none (.call .f (.c (.fn 72 [])) [.t 53, .t 55]),
   .op (some 57) none (.not (.t 56)),
   .op (some 58) none (.mov (.t 57)),
   .op (some 59) (some (58, false)) (.load true 4 (.t 1)),
   .op (some 60) (some (58, false)) (.faddr 1 (.t 5)),
   .op (some 61) (some (58, false)) (.load false 1 (.t 60)),
   .op (some 62) (some (58, false)) (.call .f (.c (.fn 72 [])) [.t 59, .t 61]),
   .op (some 63) (some (58, false)) (.not (.t 62)),
   .op (some 64) none (.pick (.t 58) (.c (.bool true)) (.t 63)),
   .op (some 52) none (.mov (.t 64))])
   (.cut
   (.cond (.t 52)
   (.seq
   (.ops [
   .op (some 65) none (.mov (.t 4)),
   .op (some 66) none (.build [.int .i64 (0), .int .i64 (0)] [(0, 1, .c (.int .i64 (5))), (1, 1, .t 65)]),
   .op none none (.store 2 (.t 2) (.t 66))])
   .ret)
   (.seq
   (.ops [
   .op (some 68) none (.faddr 2 (.t 5)),
   .op (some 69) none (.load false 1 (.t 68)),
   .op (some 70) none (.bin .lss false [] (.t 69) (.c (.int .i64 (0)))),
   .op (some 71) none (.mov (.t 70)),
   .op (some 72) (some (71, false)) (.faddr 2 (.t 5)),
   .op (some 73) (some (71, false)) (.load false 1 (.t 72)),
   .op (some 74) (some (71, false)) (.bin .gtr false [] (.t 73) (.c (.int .i64 (100)))),
   .op (some 75) none (.pick (.t 71) (.c (.bool true)) (.t 74)),
   .op (some 67) none (.mov (.t 75))])
   (.cut
   (.cond (.t 67)
   (.seq
   (.ops [
   .op (some 76) none (.mov (.t 4)),
   .op (some 77) none (.build [.int .i64 (0), .int .i64 (0)] [(0, 1, .c (.int .i64 (3))), (1, 1, .t 76)]),
   .op none none (.store 2 (.t 2) (.t 77))])
   .ret)
   .skip))))))))))
   (.cut
   (.ops [
   .op (some 78) none (.bin .add false [] (.t 47) (.c (.int .i64 (1)))),
   .op (some 47) none (.mov (.t 78))])))))))))))
   (.cut
   (.seq
   (.ops [
   .op (some 79) none (.build [.int .i64 (0), .int .i64 (0)] []),
   .op none none (.store 2 (.t 2) (.t 79))])
   .ret)))))))))
def r_multi_Validate : List RVar := [.cell true 2 2]
def n_multi_Validate : Nat := 80
theorem k_multi_Validate : chkFn Go.Proofs.Try.prog 21 n_multi_Validate r_multi_Validate c_multi_Validate = true := by kernel_rfl
theorem f_multi_Validate (m : MTask) (ho : MOk m) : Fc Go.Proofs.Try.prog 21 [mtV m] (ftV (mFault m)) := by
  obtain ⟨l1, l2, l3, l4, l5⟩ := ho
  have hC := f_ContainsFunc_int m.sizes szBad 69 [] l1 (fun _ _ => rfl) rfl (fun n _ => f_multi_Validate_1 n)
  have hI := f_multi_IsState m m.init l2
  have hA := f_multi_assigns m m.goal l3 l1
  by_cases hlen : m.sizes.length = 0 ∨ m.sizes.length > 8
  · refine Fn.step mixed k_multi_Validate ?_
    repeat' (first | refine i_len rfl ?_ | refine i_s rfl ?_ | refine c_seq ?_ | refine c_cut0 ?_ | refine c_ops ?_ | refine i_nil ?_ | refine e_seq ?_ | refine e_block ?_ | refine c_block ?_ | refine c_skip ?_ | refine c_ret ?_ | refine c_exit ?_ | refine e_exit rfl ?_ | refine i_s0 rfl ?_ | refine c_leaf ?_ | refine i_gt rfl ?_ | refine i_gf rfl ?_ | refine i_gd rfl ?_ | refine c_t rfl ?_ | refine c_f rfl ?_ | refine i_conv rfl (by simp only [InR, List.length_map]; omega) ?_ | refine i_add rfl rfl (by simp only [InR, List.length_map]; omega) ?_ | refine i_sub rfl rfl (by simp only [InR, List.length_map]; omega) ?_ | refine i_ixm rfl rfl (by assumption) ?_ | refine i_iai rfl rfl (by omega) (by assumption) rfl ?_ | refine i_iam rfl rfl (by assumption) rfl ?_ | refine i_tk rfl rfl (by omega) ?_ | refine i_stb rfl ?_ | refine i_alloc rfl ?_ | refine i_box rfl rfl ?_ | refine i_nv rfl ?_ | refine c_node ?_ ?_ | refine i_g rfl (fun h => ?_) (fun h => ?_) | refine c_cond rfl (fun h => ?_) (fun h => ?_) | refine i_f rfl rfl (hC) rfl ?_ | refine i_f rfl rfl (hI) rfl ?_ | refine i_f rfl rfl (hA) rfl ?_)
    all_goals first
      | exact e_ret ⟨rfl, _, rfl, congr_ft (mFault_sz hlen)⟩
      | (exfalso; clear hC hI hA l5; grind)
  by_cases hrg : m.sizes.any szBad = true
  · rw [hrg] at hC
    refine Fn.step mixed k_multi_Validate ?_
    repeat' (first | refine i_len rfl ?_ | refine i_s rfl ?_ | refine c_seq ?_ | refine c_cut0 ?_ | refine c_ops ?_ | refine i_nil ?_ | refine e_seq ?_ | refine e_block ?_ | refine c_block ?_ | refine c_skip ?_ | refine c_ret ?_ | refine c_exit ?_ | refine e_exit rfl ?_ | refine i_s0 rfl ?_ | refine c_leaf ?_ | refine i_gt rfl ?_ | refine i_gf rfl ?_ | refine i_gd rfl ?_ | refine c_t rfl ?_ | refine c_f rfl ?_ | refine i_conv rfl (by simp only [InR, List.length_map]; omega) ?_ | refine i_add rfl rfl (by simp only [InR, List.length_map]; omega) ?_ | refine i_sub rfl rfl (by simp only [InR, List.length_map]; omega) ?_ | refine i_ixm rfl rfl (by assumption) ?_ | refine i_iai rfl rfl (by omega) (by assumption) rfl ?_ | refine i_iam rfl rfl (by assumption) rfl ?_ | refine i_tk rfl rfl (by omega) ?_ | refine i_stb rfl ?_ | refine i_alloc rfl ?_ | refine i_box rfl rfl ?_ | refine i_nv rfl ?_ | refine c_node ?_ ?_ | refine i_g rfl (fun h => ?_) (fun h => ?_) | refine c_cond rfl (fun h => ?_) (fun h => ?_) | refine i_f rfl rfl (hC) rfl ?_ | refine i_f rfl rfl (hI) rfl ?_ | refine i_f rfl rfl (hA) rfl ?_)
    all_goals first
      | exact e_ret ⟨rfl, _, rfl, congr_ft (mFault_rg hlen hrg)⟩
      | (exfalso; clear hC hI hA l5; grind)
  have hf : MF1 m := ⟨hlen, by simpa using hrg⟩
  rw [hf.sz] at hC
  have hop : ∀ o ∈ m.ops, Fc Go.Proofs.Try.prog 72 [mtV m, .sl .p (o.pre.map asV)] (.bool (asB m.sizes o.pre)) ∧ Fc Go.Proofs.Try.prog 72 [mtV m, .sl .p (o.post.map asV)] (.bool (asB m.sizes o.post)) :=
    fun o h => ⟨f_multi_assigns m o.pre (l5 o h).1 l1, f_multi_assigns m o.post (l5 o h).2 l1⟩
  refine Fn.step mixed k_multi_Validate ?_
  repeat' (first | refine i_len rfl ?_ | refine i_s rfl ?_ | refine c_seq ?_ | refine c_cut0 ?_ | refine c_ops ?_ | refine i_nil ?_ | refine e_seq ?_ | refine e_block ?_ | refine c_block ?_ | refine c_skip ?_ | refine c_ret ?_ | refine c_exit ?_ | refine e_exit rfl ?_ | refine i_s0 rfl ?_ | refine c_leaf ?_ | refine i_gt rfl ?_ | refine i_gf rfl ?_ | refine i_gd rfl ?_ | refine c_t rfl ?_ | refine c_f rfl ?_ | refine i_conv rfl (by simp only [InR, List.length_map]; omega) ?_ | refine i_add rfl rfl (by simp only [InR, List.length_map]; omega) ?_ | refine i_sub rfl rfl (by simp only [InR, List.length_map]; omega) ?_ | refine i_ixm rfl rfl (by assumption) ?_ | refine i_iai rfl rfl (by omega) (by assumption) rfl ?_ | refine i_iam rfl rfl (by assumption) rfl ?_ | refine i_tk rfl rfl (by omega) ?_ | refine i_stb rfl ?_ | refine i_alloc rfl ?_ | refine i_box rfl rfl ?_ | refine i_nv rfl ?_ | refine c_node ?_ ?_ | refine i_g rfl (fun h => ?_) (fun h => ?_) | refine c_cond rfl (fun h => ?_) (fun h => ?_) | refine i_f rfl rfl (hC) rfl ?_ | refine i_f rfl rfl (hI) rfl ?_ | refine i_f rfl rfl (hA) rfl ?_)
  all_goals first
    | (exfalso; clear hC hI hA l5 hop; grind)
    | exact e_ret ⟨rfl, _, rfl, congr_ft (mFault_in hf (by clear hC hI hA l5 hop; grind))⟩
    | exact e_ret ⟨rfl, _, rfl, congr_ft (mFault_go hf (by clear hC hI hA l5 hop; grind) (by clear hC hI hA l5 hop; grind))⟩
    | exact e_ret ⟨rfl, _, rfl, congr_ft (mFault_op hf (by clear hC hI hA l5 hop; grind) (by clear hC hI hA l5 hop; grind) (by clear hC hI hA l5 hop; grind))⟩
    | skip
  have hel := mFault_el hf (by clear hC hI hA l5 hop; grind) (by clear hC hI hA l5 hop; grind) (by clear hC hI hA l5 hop; grind)
  clear hC hI hA
  clear hf hrg hlen l1 l2 l3 l5
  refine c_for m.ops.length (fun k => [(1, .bptr 1344068 0), (2, .bptr 1344130 0), (45, .sl .p (m.ops.map moV)), (46, .int .i64 m.ops.length), (47, .int .i64 k)]) (fun _ => [(1344068, .box (mtV m)), (1344130, .box (ftV okF))]) (fun k => ∀ j, j < k → opBad m.sizes m.ops j = none) all_zero ⟨by repeat (first | exact trivial | refine ⟨rfl, ?_⟩), by repeat (first | exact trivial | refine ⟨rfl, ?_⟩), rfl⟩ fun k hk hi => ?_
  repeat (first | refine i_len rfl ?_ | refine i_s rfl ?_ | refine c_seq ?_ | refine c_cut0 ?_ | refine c_ops ?_ | refine i_nil ?_ | refine e_seq ?_ | refine e_block ?_ | refine c_block ?_ | refine c_skip ?_ | refine c_ret ?_ | refine c_exit ?_ | refine e_exit rfl ?_ | refine i_s0 rfl ?_ | refine c_leaf ?_ | refine i_gt rfl ?_ | refine i_gf rfl ?_ | refine i_gd rfl ?_ | refine c_t rfl ?_ | refine c_f rfl ?_ | refine i_conv rfl (by simp only [InR, List.length_map]; omega) ?_ | refine i_add rfl rfl (by simp only [InR, List.length_map]; omega) ?_ | refine i_sub rfl rfl (by simp only [InR, List.length_map]; omega) ?_ | refine i_ixm rfl rfl (by assumption) ?_ | refine i_iai rfl rfl (by omega) (by assumption) rfl ?_ | refine i_iam rfl rfl (by assumption) rfl ?_ | refine i_tk rfl rfl (by omega) ?_ | refine i_stb rfl ?_ | refine i_alloc rfl ?_ | refine i_box rfl rfl ?_ | refine i_nv rfl ?_)
  refine c_cond rfl (fun h => ?_) (fun h => ?_)
  · have hlt : k < m.ops.length := by simpa using h
    obtain ⟨o, ho⟩ := get_some hlt
    obtain ⟨p1, p2⟩ := hop o (mem_get ho)
    clear hop h
    have hbad : opBad m.sizes m.ops k = if asB m.sizes o.pre = false ∨ asB m.sizes o.post = false then some ⟨5, k⟩ else if o.cost < 0 ∨ o.cost > 100 then some ⟨3, k⟩ else none := by simp [opBad, ho]
    repeat' (first | refine i_len rfl ?_ | refine i_s rfl ?_ | refine c_seq ?_ | refine c_cut0 ?_ | refine c_ops ?_ | refine i_nil ?_ | refine e_seq ?_ | refine e_block ?_ | refine c_block ?_ | refine c_skip ?_ | refine c_ret ?_ | refine c_exit ?_ | refine e_exit rfl ?_ | refine i_s0 rfl ?_ | refine c_leaf ?_ | refine i_gt rfl ?_ | refine i_gf rfl ?_ | refine i_gd rfl ?_ | refine c_t rfl ?_ | refine c_f rfl ?_ | refine i_conv rfl (by simp only [InR, List.length_map]; omega) ?_ | refine i_add rfl rfl (by simp only [InR, List.length_map]; omega) ?_ | refine i_sub rfl rfl (by simp only [InR, List.length_map]; omega) ?_ | refine i_ixm rfl rfl (by assumption) ?_ | refine i_iai rfl rfl (by omega) (by assumption) rfl ?_ | refine i_iam rfl rfl (by assumption) rfl ?_ | refine i_tk rfl rfl (by omega) ?_ | refine i_stb rfl ?_ | refine i_alloc rfl ?_ | refine i_box rfl rfl ?_ | refine i_nv rfl ?_ | refine c_node ?_ ?_ | refine i_g rfl (fun h => ?_) (fun h => ?_) | refine c_cond rfl (fun h => ?_) (fun h => ?_) | refine i_f rfl rfl (p1) rfl ?_ | refine i_f rfl rfl (p2) rfl ?_)
    all_goals first
      | exact e_ret ⟨rfl, _, rfl, congr_ft (mFault_hit hel hi hlt (by rw [hbad]; clear p1 p2 hel hi hbad; grind))⟩
      | exact e_for hlt (all_succ hi (by rw [hbad]; clear p1 p2 hel hi hbad; grind)) ⟨by repeat (first | exact trivial | refine ⟨rfl, ?_⟩), by repeat (first | exact trivial | refine ⟨rfl, ?_⟩), rfl⟩
  · have hge : ¬ k < m.ops.length := by simpa using h
    repeat' (first | refine i_len rfl ?_ | refine i_s rfl ?_ | refine c_seq ?_ | refine c_cut0 ?_ | refine c_ops ?_ | refine i_nil ?_ | refine e_seq ?_ | refine e_block ?_ | refine c_block ?_ | refine c_skip ?_ | refine c_ret ?_ | refine c_exit ?_ | refine e_exit rfl ?_ | refine i_s0 rfl ?_ | refine c_leaf ?_ | refine i_gt rfl ?_ | refine i_gf rfl ?_ | refine i_gd rfl ?_ | refine c_t rfl ?_ | refine c_f rfl ?_ | refine i_conv rfl (by simp only [InR, List.length_map]; omega) ?_ | refine i_add rfl rfl (by simp only [InR, List.length_map]; omega) ?_ | refine i_sub rfl rfl (by simp only [InR, List.length_map]; omega) ?_ | refine i_ixm rfl rfl (by assumption) ?_ | refine i_iai rfl rfl (by omega) (by assumption) rfl ?_ | refine i_iam rfl rfl (by assumption) rfl ?_ | refine i_tk rfl rfl (by omega) ?_ | refine i_stb rfl ?_ | refine i_alloc rfl ?_ | refine i_box rfl rfl ?_ | refine i_nv rfl ?_ | refine c_node ?_ ?_ | refine i_g rfl (fun h => ?_) (fun h => ?_) | refine c_cond rfl (fun h => ?_) (fun h => ?_))
    exact e_ret ⟨rfl, _, rfl, congr_ft (by rw [hel, scan0_none fun j hj => hi j (by omega)]; rfl)⟩
def c_R1_MultiFault : Cmd :=
  (.seq
   (.ops [
   .op (some 1) none (.box 1216068 4 (.t 0)),
   .op (some 2) none (.alloc 1216130 (.agg [.int .i64 (0), .int .i64 (0)]))])
   (.cut
   (.seq
   (.seq
   (.ops [
   .op (some 6) none (.faddr 0 (.t 1)),
   .op (some 7) none (.load false 1 (.t 6)),
   .op (some 8) none (.len false (.t 7)),
   .op (some 9) none (.call .f (.c (.fn 27 [])) [.t 8, .c (.int .i64 (1)), .c (.int .i64 (8))]),
   .op (some 10) none (.not (.t 9))])
   (.cut
   (.cond (.t 10)
   (.seq
   (.ops [
   .op (some 11) none (.call .f (.c (.fn 23 [])) [.c (.int .i64 (2)), .c (.int .i64 (-1))]),
   .op none none (.store 2 (.t 2) (.t 11))])
   .ret)
   .skip)))
   (.cut
   (.seq
   (.seq
   (.ops [
   .op (some 3) none (.mov (.c (.int .i64 (0))))])
   (.cut
   (.block 0
   (.loop
   (.seq
   (.seq
   (.ops [
   .op (some 12) none (.mov (.t 3)),
   .op (some 13) none (.faddr 0 (.t 1)),
   .op (some 14) none (.load false 1 (.t 13)),
   .op (some 15) none (.len false (.t 14)),
   .op (some 16) none (.bin .lss false [] (.t 12) (.t 15))])
   (.cut
   (.cond (.t 16)
   .skip
   (.exit 0))))
   (.cut
   (.seq
   (.block 1
   (.seq
   (.ops [
   .op (some 19) none (.faddr 0 (.t 1)),
   .op (some 20) none (.load false 1 (.t 19)),
   .op (some 21) none (.mov (.t 3)),
   .op (some 22) none (.iaddr 1 (.t 20) (.t 21)),
   .op (some 23) none (.load false 1 (.t 22)),
   .op (some 24) none (.call .f (.c (.fn 27 [])) [.t 23, .c (.int .i64 (1)), .c (.int .i64 (6))]),
   .op (some 25) none (.not (.t 24))])
   (.cut
   (.cond (.t 25)
   (.seq
   (.ops [
   .op (some 26) none (.call .f (.c (.fn 23 [])) [.c (.int .i64 (3)), .c (.int .i64 (-1))]),
   .op none none (.store 2 (.t 2) (.t 26))])
   .ret)
   .skip))))
   (.cut
   (.ops [
   .op (some 17) none (.mov (.t 3)),
   .op (some 18) none (.bin .add false [] (.t 17) (.c (.int .i64 (1)))),
   .op (some 3) none (.mov (.t 18))])))))))))
   (.cut
   (.seq
   (.seq
   (.ops [
   .op (some 27) none (.load true 4 (.t 1)),
   .op (some 28) none (.faddr 1 (.t 1)),
   .op (some 29) none (.load false 1 (.t 28)),
   .op (some 30) none (.call .f (.c (.fn 22 [])) [.t 27, .t 29]),
   .op (some 31) none (.not (.t 30))])
   (.cut
   (.cond (.t 31)
   (.seq
   (.ops [
   .op (some 32) none (.call .f (.c (.fn 23 [])) [.c (.int .i64 (5)), .c (.int .i64 (-2))]),
   .op none none (.store 2 (.t 2) (.t 32))])
   .ret)
   .skip)))
   (.cut
   (.seq
   (.seq
   (.ops [
   .op (some 33) none (.load true 4 (.t 1)),
   .op (some 34) none (.faddr 2 (.t 1)),
   .op (some 35) none (.load false 1 (.t 34)),
   .op (some 36) none (.call .f (.c (.fn 66 [])) [.t 33, .t 35]),
   .op (some 37) none (.not (.t 36))])
   (.cut
   (.cond (.t 37)
   (.seq
   (.ops [
   .op (some 38) none (.call .f (.c (.fn 23 [])) [.c (.int .i64 (5)), .c (.int .i64 (-3))]),
   .op none none (.store 2 (.t 2) (.t 38))])
   .ret)
   .skip)))
   (.cut
   (.seq
   (.seq
   (.ops [
   .op (some 39) none (.faddr 3 (.t 1)),
   .op (some 40) none (.load false 1 (.t 39)),
   .op (some 41) none (.len false (.t 40)),
   .op (some 42) none (.bin .gtr false [] (.t 41) (.c (.int .i64 (40))))])
   (.cut
   (.cond (.t 42)
   (.seq
   (.ops [
   .op (some 43) none (.call .f (.c (.fn 23 [])) [.c (.int .i64 (2)), .c (.int .i64 (-1))]),
   .op none none (.store 2 (.t 2) (.t 43))])
   .ret)
   .skip)))
   (.cut
   (.seq
   (.seq
   (.ops [
   .op (some 4) none (.mov (.c (.int .i64 (0))))])
   (.cut
   (.block 2
   (.loop
   (.seq
   (.seq
   (.ops [
   .op (some 44) none (.mov (.t 4)),
   .op (some 45) none (.faddr 3 (.t 1)),
   .op (some 46) none (.load false 1 (.t 45)),
   .op (some 47) none (.len false (.t 46)),
   .op (some 48) none (.bin .lss false [] (.t 44) (.t 47))])
   (.cut
   (.cond (.t 48)
   .skip
   (.exit 2))))
   (.cut
   (.seq
   (.block 3
   (.seq
   (.ops [
   .op (some 51) none (.faddr 3 (.t 1)),
   .op (some 52) none (.load false 1 (.t 51)),
   .op (some 53) none (.mov (.t 4)),
   .op (some 54) none (.iaddr 3 (.t 52) (.t 53)),
   .op (some 55) none (.load true 3 (.t 54)),
   .op (some 5) none (.alloc 1216323 (.agg [.sl .nil [], .sl .nil [], .int .i64 (0)])),
   .op none none (.store 3 (.t 5) (.t 55))])
   (.cut
   (.seq
   (.seq
   (.ops [
   .op (some 56) none (.load true 4 (.t 1)),
   .op (some 57) none (.faddr 0 (.t 5)),
   .op (some 58) none (.load false 1 (.t 57)),
   .op (some 59) none (.call .f (.c (.fn 66 [])) [.t 56, .t 58]),
   .op (some 60) none (.not (.t 59)),
   .op (some 61) none (.mov (.t 60)),
   .op (some 62) (some (61, false)) (.load true 4 (.t 1)),
   .op (some 63) (some (61, false)) (.faddr 1 (.t 5)),
   .op (some 64) (some (61, false)) (.load false 1 (.t 63)),
   .op (some 65) (some (61, false)) (.call .f (.c (.fn 66 [])) [.t 62, .t 64]),
   .op (some 66) (some (61, false)) (.not (.t 65)),
   .op (some 67) none (.pick (.t 61) (.c (.bool true)) (.t 66))])
   (.cut
   (.cond (.t 67)
   (.seq
   (.ops [
   .op (some 68) none (.mov (.t 4)),
   .op (some 69) none (.call .f (.c (.fn 23 [])) [.c (.int .i64 (5)), .t 68]),
   .op none none (.store 2 (.t 2) (.t 69))])
   .ret)
   .skip)))
   (.cut
   (.seq
   (.ops [
   .op (some 70) none (.faddr 2 (.t 5)),
   .op (some 71) none (.load false 1 (.t 70)),
   .op (some 72) none (.call .f (.c (.fn 27 [])) [.t 71, .c (.int .i64 (0)), .c (.int .i64 (100))]),
   .op (some 73) none (.not (.t 72))])
   (.cut
   (.cond (.t 73)
   (.seq
   (.ops [
   .op (some 74) none (.mov (.t 4)),
   .op (some 75) none (.call .f (.c (.fn 23 [])) [.c (.int .i64 (3)), .t 74]),
   .op none none (.store 2 (.t 2) (.t 75))])
   .ret)
   .skip))))))))
   (.cut
   (.ops [
   .op (some 49) none (.mov (.t 4)),
   .op (some 50) none (.bin .add false [] (.t 49) (.c (.int .i64 (1)))),
   .op (some 4) none (.mov (.t 50))])))))))))
   (.cut
   (.seq
   (.ops [
   .op (some 76) none (.build [.int .i64 (0), .int .i64 (0)] []),
   .op none none (.store 2 (.t 2) (.t 76))])
   .ret)))))))))))))))
def r_R1_MultiFault : List RVar := [.cell true 2 2]
def n_R1_MultiFault : Nat := 77
theorem k_R1_MultiFault : chkFn Go.Proofs.Try.prog 19 n_R1_MultiFault r_R1_MultiFault c_R1_MultiFault = true := by kernel_rfl
theorem f_R1_MultiFault (m : MTask) (ho : MOk m) : Fc Go.Proofs.Try.prog 19 [mtV m] (ftV (mFault m)) := by
  obtain ⟨l1, l2, l3, l4, l5⟩ := ho
  refine Fn.step mixed k_R1_MultiFault ?_
  repeat' (first | refine i_len rfl ?_ | refine i_s rfl ?_ | refine c_seq ?_ | refine c_cut0 ?_ | refine c_ops ?_ | refine i_nil ?_ | refine e_seq ?_ | refine e_block ?_ | refine c_block ?_ | refine c_skip ?_ | refine c_ret ?_ | refine c_exit ?_ | refine e_exit rfl ?_ | refine i_s0 rfl ?_ | refine c_leaf ?_ | refine i_gt rfl ?_ | refine i_gf rfl ?_ | refine i_gd rfl ?_ | refine c_t rfl ?_ | refine c_f rfl ?_ | refine i_conv rfl (by simp only [InR, List.length_map]; omega) ?_ | refine i_add rfl rfl (by simp only [InR, List.length_map]; omega) ?_ | refine i_sub rfl rfl (by simp only [InR, List.length_map]; omega) ?_ | refine i_ixm rfl rfl (by assumption) ?_ | refine i_iai rfl rfl (by omega) (by assumption) rfl ?_ | refine i_iam rfl rfl (by assumption) rfl ?_ | refine i_tk rfl rfl (by omega) ?_ | refine i_stb rfl ?_ | refine i_alloc rfl ?_ | refine i_box rfl rfl ?_ | refine i_nv rfl ?_ | refine c_node ?_ ?_ | refine i_g rfl (fun h => ?_) (fun h => ?_) | refine c_cond rfl (fun h => ?_) (fun h => ?_) | refine i_f rfl rfl (f_R1_In _ _ _) rfl ?_ | refine i_f rfl rfl (f_R1_At _ _) rfl ?_)
  · exact e_ret ⟨rfl, _, rfl, congr_ft (mFault_sz (by clear l5; grind))⟩
  have hlen : ¬ (m.sizes.length = 0 ∨ m.sizes.length > 8) := by clear l5; grind
  clear h
  refine c_for m.sizes.length (fun k => [(1, .bptr 1216068 0), (2, .bptr 1216130 0), (3, .int .i64 k)]) (fun _ => [(1216068, .box (mtV m)), (1216130, .box (ftV okF))]) (fun k => (m.sizes.take k).any szBad = false) (by simp) ⟨by repeat (first | exact trivial | refine ⟨rfl, ?_⟩), by repeat (first | exact trivial | refine ⟨rfl, ?_⟩), rfl⟩ fun k hk hi => ?_
  repeat (first | refine i_len rfl ?_ | refine i_s rfl ?_ | refine c_seq ?_ | refine c_cut0 ?_ | refine c_ops ?_ | refine i_nil ?_ | refine e_seq ?_ | refine e_block ?_ | refine c_block ?_ | refine c_skip ?_ | refine c_ret ?_ | refine c_exit ?_ | refine e_exit rfl ?_ | refine i_s0 rfl ?_ | refine c_leaf ?_ | refine i_gt rfl ?_ | refine i_gf rfl ?_ | refine i_gd rfl ?_ | refine c_t rfl ?_ | refine c_f rfl ?_ | refine i_conv rfl (by simp only [InR, List.length_map]; omega) ?_ | refine i_add rfl rfl (by simp only [InR, List.length_map]; omega) ?_ | refine i_sub rfl rfl (by simp only [InR, List.length_map]; omega) ?_ | refine i_ixm rfl rfl (by assumption) ?_ | refine i_iai rfl rfl (by omega) (by assumption) rfl ?_ | refine i_iam rfl rfl (by assumption) rfl ?_ | refine i_tk rfl rfl (by omega) ?_ | refine i_stb rfl ?_ | refine i_alloc rfl ?_ | refine i_box rfl rfl ?_ | refine i_nv rfl ?_)
  refine c_cond rfl (fun h => ?_) (fun h => ?_)
  · have hlt : k < m.sizes.length := by simpa using h
    obtain ⟨z, hz⟩ := get_some hlt
    clear h
    repeat' (first | refine i_len rfl ?_ | refine i_s rfl ?_ | refine c_seq ?_ | refine c_cut0 ?_ | refine c_ops ?_ | refine i_nil ?_ | refine e_seq ?_ | refine e_block ?_ | refine c_block ?_ | refine c_skip ?_ | refine c_ret ?_ | refine c_exit ?_ | refine e_exit rfl ?_ | refine i_s0 rfl ?_ | refine c_leaf ?_ | refine i_gt rfl ?_ | refine i_gf rfl ?_ | refine i_gd rfl ?_ | refine c_t rfl ?_ | refine c_f rfl ?_ | refine i_conv rfl (by simp only [InR, List.length_map]; omega) ?_ | refine i_add rfl rfl (by simp only [InR, List.length_map]; omega) ?_ | refine i_sub rfl rfl (by simp only [InR, List.length_map]; omega) ?_ | refine i_ixm rfl rfl (by assumption) ?_ | refine i_iai rfl rfl (by omega) (by assumption) rfl ?_ | refine i_iam rfl rfl (by assumption) rfl ?_ | refine i_tk rfl rfl (by omega) ?_ | refine i_stb rfl ?_ | refine i_alloc rfl ?_ | refine i_box rfl rfl ?_ | refine i_nv rfl ?_ | refine c_node ?_ ?_ | refine i_g rfl (fun h => ?_) (fun h => ?_) | refine c_cond rfl (fun h => ?_) (fun h => ?_) | refine i_f rfl rfl (f_R1_In _ _ _) rfl ?_ | refine i_f rfl rfl (f_R1_At _ _) rfl ?_)
    · refine e_ret ⟨rfl, _, rfl, congr_ft (mFault_rg hlen ?_)⟩
      exact List.any_eq_true.2 ⟨z, mem_get hz, by unfold szBad; clear l5 hi; grind⟩
    · refine e_for hlt ?_ ⟨by repeat (first | exact trivial | refine ⟨rfl, ?_⟩), by repeat (first | exact trivial | refine ⟨rfl, ?_⟩), rfl⟩
      rw [take_succ_get hz, List.any_append, hi]
      simp only [List.any_cons, List.any_nil, Bool.or_false, Bool.false_or]
      unfold szBad; clear l5 hi; grind
  have hge : ¬ k < m.sizes.length := by simpa using h
  rw [List.take_of_length_le (by omega)] at hi
  have hf : MF1 m := ⟨hlen, hi⟩
  have hI := f_R1_MultiState m m.init l2 hf.rng
  have hA := f_R1_Assigns m m.goal l3 l1 hf.rng
  have hop : ∀ o ∈ m.ops, Fc Go.Proofs.Try.prog 66 [mtV m, .sl .p (o.pre.map asV)] (.bool (asB m.sizes o.pre)) ∧ Fc Go.Proofs.Try.prog 66 [mtV m, .sl .p (o.post.map asV)] (.bool (asB m.sizes o.post)) :=
    fun o h => ⟨f_R1_Assigns m o.pre (l5 o h).1 l1 hf.rng, f_R1_Assigns m o.post (l5 o h).2 l1 hf.rng⟩
  clear h hge hi hk l5
  repeat' (first | refine i_len rfl ?_ | refine i_s rfl ?_ | refine c_seq ?_ | refine c_cut0 ?_ | refine c_ops ?_ | refine i_nil ?_ | refine e_seq ?_ | refine e_block ?_ | refine c_block ?_ | refine c_skip ?_ | refine c_ret ?_ | refine c_exit ?_ | refine e_exit rfl ?_ | refine i_s0 rfl ?_ | refine c_leaf ?_ | refine i_gt rfl ?_ | refine i_gf rfl ?_ | refine i_gd rfl ?_ | refine c_t rfl ?_ | refine c_f rfl ?_ | refine i_conv rfl (by simp only [InR, List.length_map]; omega) ?_ | refine i_add rfl rfl (by simp only [InR, List.length_map]; omega) ?_ | refine i_sub rfl rfl (by simp only [InR, List.length_map]; omega) ?_ | refine i_ixm rfl rfl (by assumption) ?_ | refine i_iai rfl rfl (by omega) (by assumption) rfl ?_ | refine i_iam rfl rfl (by assumption) rfl ?_ | refine i_tk rfl rfl (by omega) ?_ | refine i_stb rfl ?_ | refine i_alloc rfl ?_ | refine i_box rfl rfl ?_ | refine i_nv rfl ?_ | refine c_node ?_ ?_ | refine i_g rfl (fun h => ?_) (fun h => ?_) | refine c_cond rfl (fun h => ?_) (fun h => ?_) | refine i_f rfl rfl (hI) rfl ?_ | refine i_f rfl rfl (hA) rfl ?_ | refine i_f rfl rfl (f_R1_At _ _) rfl ?_)
  · exact e_ret ⟨rfl, _, rfl, congr_ft (mFault_in hf (by clear hI hA hop; grind))⟩
  · exact e_ret ⟨rfl, _, rfl, congr_ft (mFault_go hf (by clear hI hA hop; grind) (by clear hI hA hop; grind))⟩
  · exact e_ret ⟨rfl, _, rfl, congr_ft (mFault_op hf (by clear hI hA hop; grind) (by clear hI hA hop; grind) (by clear hI hA hop; grind))⟩
  have hel := mFault_el hf (by clear hI hA hop; grind) (by clear hI hA hop; grind) (by clear hI hA hop; grind)
  clear hI hA
  clear hf hlen l1 l2 l3
  refine c_for m.ops.length (fun k => [(1, .bptr 1216068 0), (2, .bptr 1216130 0), (4, .int .i64 k)]) (fun _ => [(1216068, .box (mtV m)), (1216130, .box (ftV okF))]) (fun k => ∀ j, j < k → opBad m.sizes m.ops j = none) all_zero ⟨by repeat (first | exact trivial | refine ⟨rfl, ?_⟩), by repeat (first | exact trivial | refine ⟨rfl, ?_⟩), rfl⟩ fun k hk hi => ?_
  repeat (first | refine i_len rfl ?_ | refine i_s rfl ?_ | refine c_seq ?_ | refine c_cut0 ?_ | refine c_ops ?_ | refine i_nil ?_ | refine e_seq ?_ | refine e_block ?_ | refine c_block ?_ | refine c_skip ?_ | refine c_ret ?_ | refine c_exit ?_ | refine e_exit rfl ?_ | refine i_s0 rfl ?_ | refine c_leaf ?_ | refine i_gt rfl ?_ | refine i_gf rfl ?_ | refine i_gd rfl ?_ | refine c_t rfl ?_ | refine c_f rfl ?_ | refine i_conv rfl (by simp only [InR, List.length_map]; omega) ?_ | refine i_add rfl rfl (by simp only [InR, List.length_map]; omega) ?_ | refine i_sub rfl rfl (by simp only [InR, List.length_map]; omega) ?_ | refine i_ixm rfl rfl (by assumption) ?_ | refine i_iai rfl rfl (by omega) (by assumption) rfl ?_ | refine i_iam rfl rfl (by assumption) rfl ?_ | refine i_tk rfl rfl (by omega) ?_ | refine i_stb rfl ?_ | refine i_alloc rfl ?_ | refine i_box rfl rfl ?_ | refine i_nv rfl ?_)
  refine c_cond rfl (fun h => ?_) (fun h => ?_)
  · have hlt : k < m.ops.length := by simpa using h
    obtain ⟨o, ho⟩ := get_some hlt
    obtain ⟨p1, p2⟩ := hop o (mem_get ho)
    clear hop h
    have hbad : opBad m.sizes m.ops k = if asB m.sizes o.pre = false ∨ asB m.sizes o.post = false then some ⟨5, k⟩ else if o.cost < 0 ∨ o.cost > 100 then some ⟨3, k⟩ else none := by simp [opBad, ho]
    repeat' (first | refine i_len rfl ?_ | refine i_s rfl ?_ | refine c_seq ?_ | refine c_cut0 ?_ | refine c_ops ?_ | refine i_nil ?_ | refine e_seq ?_ | refine e_block ?_ | refine c_block ?_ | refine c_skip ?_ | refine c_ret ?_ | refine c_exit ?_ | refine e_exit rfl ?_ | refine i_s0 rfl ?_ | refine c_leaf ?_ | refine i_gt rfl ?_ | refine i_gf rfl ?_ | refine i_gd rfl ?_ | refine c_t rfl ?_ | refine c_f rfl ?_ | refine i_conv rfl (by simp only [InR, List.length_map]; omega) ?_ | refine i_add rfl rfl (by simp only [InR, List.length_map]; omega) ?_ | refine i_sub rfl rfl (by simp only [InR, List.length_map]; omega) ?_ | refine i_ixm rfl rfl (by assumption) ?_ | refine i_iai rfl rfl (by omega) (by assumption) rfl ?_ | refine i_iam rfl rfl (by assumption) rfl ?_ | refine i_tk rfl rfl (by omega) ?_ | refine i_stb rfl ?_ | refine i_alloc rfl ?_ | refine i_box rfl rfl ?_ | refine i_nv rfl ?_ | refine c_node ?_ ?_ | refine i_g rfl (fun h => ?_) (fun h => ?_) | refine c_cond rfl (fun h => ?_) (fun h => ?_) | refine i_f rfl rfl (p1) rfl ?_ | refine i_f rfl rfl (p2) rfl ?_ | refine i_f rfl rfl (f_R1_In _ _ _) rfl ?_ | refine i_f rfl rfl (f_R1_At _ _) rfl ?_)
    all_goals first
      | exact e_ret ⟨rfl, _, rfl, congr_ft (mFault_hit hel hi hlt (by rw [hbad]; clear p1 p2 hel hi hbad; grind))⟩
      | exact e_for hlt (all_succ hi (by rw [hbad]; clear p1 p2 hel hi hbad; grind)) ⟨by repeat (first | exact trivial | refine ⟨rfl, ?_⟩), by repeat (first | exact trivial | refine ⟨rfl, ?_⟩), rfl⟩
  · have hge : ¬ k < m.ops.length := by simpa using h
    repeat' (first | refine i_len rfl ?_ | refine i_s rfl ?_ | refine c_seq ?_ | refine c_cut0 ?_ | refine c_ops ?_ | refine i_nil ?_ | refine e_seq ?_ | refine e_block ?_ | refine c_block ?_ | refine c_skip ?_ | refine c_ret ?_ | refine c_exit ?_ | refine e_exit rfl ?_ | refine i_s0 rfl ?_ | refine c_leaf ?_ | refine i_gt rfl ?_ | refine i_gf rfl ?_ | refine i_gd rfl ?_ | refine c_t rfl ?_ | refine c_f rfl ?_ | refine i_conv rfl (by simp only [InR, List.length_map]; omega) ?_ | refine i_add rfl rfl (by simp only [InR, List.length_map]; omega) ?_ | refine i_sub rfl rfl (by simp only [InR, List.length_map]; omega) ?_ | refine i_ixm rfl rfl (by assumption) ?_ | refine i_iai rfl rfl (by omega) (by assumption) rfl ?_ | refine i_iam rfl rfl (by assumption) rfl ?_ | refine i_tk rfl rfl (by omega) ?_ | refine i_stb rfl ?_ | refine i_alloc rfl ?_ | refine i_box rfl rfl ?_ | refine i_nv rfl ?_ | refine c_node ?_ ?_ | refine i_g rfl (fun h => ?_) (fun h => ?_) | refine c_cond rfl (fun h => ?_) (fun h => ?_))
    exact e_ret ⟨rfl, _, rfl, congr_ft (by rw [hel, scan0_none fun j hj => hi j (by omega)]; rfl)⟩
end Hm
end

section
/- Contracts: assignments that hold; states after operators. -/
namespace Hm
open Go
set_option maxRecDepth 100000
set_option maxHeartbeats 1000000
set_option linter.unusedSimpArgs false
set_option linter.unusedVariables false
theorem holdAt_get {s : List Int} {a : Asg} {x : Int} (h0 : 0 ≤ a.var) (hx : s[a.var.toNat]? = some x) : holdAt s a = (x == a.value) := by
  simp [holdAt, szAt, hx, show ¬ a.var < 0 from by omega]
def c_R1_MultiHolds : Cmd :=
  (.seq
   (.ops [
   .op (some 4) none (.mov (.c (.bool false)))])
   (.cut
   (.seq
   (.seq
   (.ops [
   .op (some 5) none (.mov (.c (.int .i64 (0))))])
   (.cut
   (.block 0
   (.loop
   (.seq
   (.seq
   (.ops [
   .op (some 6) none (.mov (.t 5)),
   .op (some 7) none (.mov (.t 1)),
   .op (some 8) none (.len false (.t 7)),
   .op (some 9) none (.bin .lss false [] (.t 6) (.t 8))])
   (.cut
   (.cond (.t 9)
   .skip
   (.exit 0))))
   (.cut
   (.seq
   (.block 1
   (.seq
   (.ops [
   .op (some 12) none (.mov (.t 0)),
   .op (some 13) none (.mov (.t 1)),
   .op (some 14) none (.mov (.t 5)),
   .op (some 15) none (.iaddr 2 (.t 13) (.t 14)),
   .op (some 16) none (.faddr 0 (.t 15)),
   .op (some 17) none (.load false 1 (.t 16)),
   .op (some 18) none (.iaddr 1 (.t 12) (.t 17)),
   .op (some 19) none (.load false 1 (.t 18)),
   .op (some 20) none (.mov (.t 1)),
   .op (some 21) none (.mov (.t 5)),
   .op (some 22) none (.iaddr 2 (.t 20) (.t 21)),
   .op (some 23) none (.faddr 1 (.t 22)),
   .op (some 24) none (.load false 1 (.t 23)),
   .op (some 25) none (.bin .neq false [.i] (.t 19) (.t 24))])
   (.cut
   (.cond (.t 25)
   (.seq
   (.ops [
   .op (some 4) none (.mov (.c (.bool false)))])
   .ret)
   .skip))))
   (.cut
   (.ops [
   .op (some 10) none (.mov (.t 5)),
   .op (some 11) none (.bin .add false [] (.t 10) (.c (.int .i64 (1)))),
   .op (some 5) none (.mov (.t 11))])))))))))
   (.cut
   (.seq
   (.ops [
   .op (some 4) none (.mov (.c (.bool true)))])
   .ret)))))
def r_R1_MultiHolds : List RVar := [.tmp 4]
def n_R1_MultiHolds : Nat := 26
theorem k_R1_MultiHolds : chkFn Go.Proofs.Try.prog 24 n_R1_MultiHolds r_R1_MultiHolds c_R1_MultiHolds = true := by kernel_rfl
theorem f_R1_MultiHolds (s : List Int) (l : List Asg) (hl : l.length ≤ 140737488355328) (hv : asIn s.length l) : Fc Go.Proofs.Try.prog 24 [.sl .p (s.map i64V), .sl .p (l.map asV)] (.bool (holds s l)) := by
  refine Fn.step mixed k_R1_MultiHolds ?_
  repeat' (first | refine i_len rfl ?_ | refine i_s rfl ?_ | refine c_seq ?_ | refine c_cut0 ?_ | refine c_ops ?_ | refine i_nil ?_ | refine e_seq ?_ | refine e_block ?_ | refine c_block ?_ | refine c_skip ?_ | refine c_ret ?_ | refine c_exit ?_ | refine e_exit rfl ?_ | refine i_s0 rfl ?_ | refine c_leaf ?_ | refine i_gt rfl ?_ | refine i_gf rfl ?_ | refine i_gd rfl ?_ | refine c_t rfl ?_ | refine c_f rfl ?_ | refine i_conv rfl (by simp only [InR, List.length_map]; omega) ?_ | refine i_add rfl rfl (by simp only [InR, List.length_map]; omega) ?_ | refine i_sub rfl rfl (by simp only [InR, List.length_map]; omega) ?_ | refine i_ixm rfl rfl (by assumption) ?_ | refine i_iai rfl rfl (by omega) (by assumption) rfl ?_ | refine i_iam rfl rfl (by assumption) rfl ?_ | refine i_tk rfl rfl (by omega) ?_ | refine i_stb rfl ?_ | refine i_alloc rfl ?_ | refine i_box rfl rfl ?_ | refine i_nv rfl ?_ | refine c_node ?_ ?_ | refine i_g rfl (fun h => ?_) (fun h => ?_) | refine c_cond rfl (fun h => ?_) (fun h => ?_))
  refine c_for l.length (fun k => [(0, .sl .p (s.map i64V)), (1, .sl .p (l.map asV)), (5, .int .i64 k)]) (fun _ => []) (fun k => (l.take k).all (holdAt s) = true) (by simp) ⟨by repeat (first | exact trivial | refine ⟨rfl, ?_⟩), by repeat (first | exact trivial | refine ⟨rfl, ?_⟩), rfl⟩ fun k hk hi => ?_
  repeat (first | refine i_len rfl ?_ | refine i_s rfl ?_ | refine c_seq ?_ | refine c_cut0 ?_ | refine c_ops ?_ | refine i_nil ?_ | refine e_seq ?_ | refine e_block ?_ | refine c_block ?_ | refine c_skip ?_ | refine c_ret ?_ | refine c_exit ?_ | refine e_exit rfl ?_ | refine i_s0 rfl ?_ | refine c_leaf ?_ | refine i_gt rfl ?_ | refine i_gf rfl ?_ | refine i_gd rfl ?_ | refine c_t rfl ?_ | refine c_f rfl ?_ | refine i_conv rfl (by simp only [InR, List.length_map]; omega) ?_ | refine i_add rfl rfl (by simp only [InR, List.length_map]; omega) ?_ | refine i_sub rfl rfl (by simp only [InR, List.length_map]; omega) ?_ | refine i_ixm rfl rfl (by assumption) ?_ | refine i_iai rfl rfl (by omega) (by assumption) rfl ?_ | refine i_iam rfl rfl (by assumption) rfl ?_ | refine i_tk rfl rfl (by omega) ?_ | refine i_stb rfl ?_ | refine i_alloc rfl ?_ | refine i_box rfl rfl ?_ | refine i_nv rfl ?_)
  refine c_cond rfl (fun h => ?_) (fun h => ?_)
  · have hlt : k < l.length := by simpa using h
    obtain ⟨a, ha⟩ := get_some hlt
    obtain ⟨h0, h1⟩ := hv a (mem_get ha)
    obtain ⟨x, hx⟩ := get_some (l := s) (k := a.var.toNat) (by omega)
    have hh := holdAt_get h0 hx
    clear h
    repeat' (first | refine i_len rfl ?_ | refine i_s rfl ?_ | refine c_seq ?_ | refine c_cut0 ?_ | refine c_ops ?_ | refine i_nil ?_ | refine e_seq ?_ | refine e_block ?_ | refine c_block ?_ | refine c_skip ?_ | refine c_ret ?_ | refine c_exit ?_ | refine e_exit rfl ?_ | refine i_s0 rfl ?_ | refine c_leaf ?_ | refine i_gt rfl ?_ | refine i_gf rfl ?_ | refine i_gd rfl ?_ | refine c_t rfl ?_ | refine c_f rfl ?_ | refine i_conv rfl (by simp only [InR, List.length_map]; omega) ?_ | refine i_add rfl rfl (by simp only [InR, List.length_map]; omega) ?_ | refine i_sub rfl rfl (by simp only [InR, List.length_map]; omega) ?_ | refine i_ixm rfl rfl (by assumption) ?_ | refine i_iai rfl rfl (by omega) (by assumption) rfl ?_ | refine i_iam rfl rfl (by assumption) rfl ?_ | refine i_tk rfl rfl (by omega) ?_ | refine i_stb rfl ?_ | refine i_alloc rfl ?_ | refine i_box rfl rfl ?_ | refine i_nv rfl ?_ | refine c_node ?_ ?_ | refine i_g rfl (fun h => ?_) (fun h => ?_) | refine c_cond rfl (fun h => ?_) (fun h => ?_))
    · refine e_ret ⟨rfl, _, rfl, congrArg V.bool ?_⟩
      unfold holds
      rw [List.all_eq_false]
      exact ⟨a, mem_get ha, by rw [hh]; simpa using h⟩
    · refine e_for hlt ?_ ⟨by repeat (first | exact trivial | refine ⟨rfl, ?_⟩), by repeat (first | exact trivial | refine ⟨rfl, ?_⟩), rfl⟩
      rw [take_succ_get ha, List.all_append, hi]
      simp only [List.all_cons, List.all_nil, Bool.and_true, Bool.true_and, hh]
      simpa using h
  · have hge : ¬ k < l.length := by simpa using h
    rw [List.take_of_length_le (by omega)] at hi
    repeat' (first | refine i_len rfl ?_ | refine i_s rfl ?_ | refine c_seq ?_ | refine c_cut0 ?_ | refine c_ops ?_ | refine i_nil ?_ | refine e_seq ?_ | refine e_block ?_ | refine c_block ?_ | refine c_skip ?_ | refine c_ret ?_ | refine c_exit ?_ | refine e_exit rfl ?_ | refine i_s0 rfl ?_ | refine c_leaf ?_ | refine i_gt rfl ?_ | refine i_gf rfl ?_ | refine i_gd rfl ?_ | refine c_t rfl ?_ | refine c_f rfl ?_ | refine i_conv rfl (by simp only [InR, List.length_map]; omega) ?_ | refine i_add rfl rfl (by simp only [InR, List.length_map]; omega) ?_ | refine i_sub rfl rfl (by simp only [InR, List.length_map]; omega) ?_ | refine i_ixm rfl rfl (by assumption) ?_ | refine i_iai rfl rfl (by omega) (by assumption) rfl ?_ | refine i_iam rfl rfl (by assumption) rfl ?_ | refine i_tk rfl rfl (by omega) ?_ | refine i_stb rfl ?_ | refine i_alloc rfl ?_ | refine i_box rfl rfl ?_ | refine i_nv rfl ?_ | refine c_node ?_ ?_ | refine i_g rfl (fun h => ?_) (fun h => ?_) | refine c_cond rfl (fun h => ?_) (fun h => ?_))
    exact e_ret ⟨rfl, _, rfl, congrArg V.bool hi⟩
def c_multi_Holds_1 : Cmd :=
  (.seq
   (.ops [
   .op (some 2) none (.box 6656130 2 (.t 0)),
   .op (some 3) none (.mov (.c (.bool false)))])
   (.cut
   (.seq
   (.ops [
   .op (some 4) none (.load false 1 (.t 1)),
   .op (some 5) none (.faddr 0 (.t 2)),
   .op (some 6) none (.load false 1 (.t 5)),
   .op (some 7) none (.iaddr 1 (.t 4) (.t 6)),
   .op (some 8) none (.load false 1 (.t 7)),
   .op (some 9) none (.faddr 1 (.t 2)),
   .op (some 10) none (.load false 1 (.t 9)),
   .op (some 11) none (.bin .neq false [.i] (.t 8) (.t 10)),
   .op (some 3) none (.mov (.t 11))])
   .ret)))
def r_multi_Holds_1 : List RVar := [.tmp 3]
def n_multi_Holds_1 : Nat := 12
theorem k_multi_Holds_1 : chkFn Go.Proofs.Try.prog 104 n_multi_Holds_1 r_multi_Holds_1 c_multi_Holds_1 = true := by kernel_rfl
theorem f_multi_Holds_1 (s : List Int) (a : Asg) (h0 : 0 ≤ a.var) (h1 : a.var < s.length) : Fc Go.Proofs.Try.prog 104 [asV a, .cptr .p (.sl .p (s.map i64V)) 0] (.bool (!holdAt s a)) := by
  obtain ⟨x, hx⟩ := get_some (l := s) (k := a.var.toNat) (by omega)
  refine Fn.step mixed k_multi_Holds_1 ?_
  repeat' (first | refine i_len rfl ?_ | refine i_s rfl ?_ | refine c_seq ?_ | refine c_cut0 ?_ | refine c_ops ?_ | refine i_nil ?_ | refine e_seq ?_ | refine e_block ?_ | refine c_block ?_ | refine c_skip ?_ | refine c_ret ?_ | refine c_exit ?_ | refine e_exit rfl ?_ | refine i_s0 rfl ?_ | refine c_leaf ?_ | refine i_gt rfl ?_ | refine i_gf rfl ?_ | refine i_gd rfl ?_ | refine c_t rfl ?_ | refine c_f rfl ?_ | refine i_conv rfl (by simp only [InR, List.length_map]; omega) ?_ | refine i_add rfl rfl (by simp only [InR, List.length_map]; omega) ?_ | refine i_sub rfl rfl (by simp only [InR, List.length_map]; omega) ?_ | refine i_ixm rfl rfl (by assumption) ?_ | refine i_iai rfl rfl (by omega) (by assumption) rfl ?_ | refine i_iam rfl rfl (by assumption) rfl ?_ | refine i_tk rfl rfl (by omega) ?_ | refine i_stb rfl ?_ | refine i_alloc rfl ?_ | refine i_box rfl rfl ?_ | refine i_nv rfl ?_ | refine c_node ?_ ?_ | refine i_g rfl (fun h => ?_) (fun h => ?_) | refine c_cond rfl (fun h => ?_) (fun h => ?_))
  exact e_ret ⟨rfl, _, rfl, congrArg V.bool (by rw [holdAt_get h0 hx])⟩
def c_multi_Holds : Cmd :=
  (.seq
   (.ops [
   .op (some 2) none (.box 4736129 1 (.t 0)),
   .op (some 4) none (.mov (.c (.bool false)))])
   (.cut
   (.seq
   (.ops [
   .op (some 5) none (.mov (.t 1)),
   .op (some 6) none (.mkfn 104 [.t 2]),
   .op (some 7) none (.call .f (.c (.fn 103 [])) [.t 5, .t 6]),
   .op (some 8) none (.not (.t 7)),
   .op (some 4) none (.mov (.t 8))])
   .ret)))
def r_multi_Holds : List RVar := [.tmp 4]
def n_multi_Holds : Nat := 9
theorem k_multi_Holds : chkFn Go.Proofs.Try.prog 74 n_multi_Holds r_multi_Holds c_multi_Holds = true := by kernel_rfl
theorem f_multi_Holds (s : List Int) (l : List Asg) (hl : l.length ≤ 140737488355328) (hv : asIn s.length l) : Fc Go.Proofs.Try.prog 74 [.sl .p (s.map i64V), .sl .p (l.map asV)] (.bool (holds s l)) := by
  have hC := f_ContainsFunc_Assign l (fun a => !holdAt s a) 104 [.cptr .p (.sl .p (s.map i64V)) 0] hl (fun _ _ => rfl) rfl (fun a h => f_multi_Holds_1 s a (hv a h).1 (hv a h).2)
  refine Fn.step mixed k_multi_Holds ?_
  repeat' (first | refine i_len rfl ?_ | refine i_s rfl ?_ | refine c_seq ?_ | refine c_cut0 ?_ | refine c_ops ?_ | refine i_nil ?_ | refine e_seq ?_ | refine e_block ?_ | refine c_block ?_ | refine c_skip ?_ | refine c_ret ?_ | refine c_exit ?_ | refine e_exit rfl ?_ | refine i_s0 rfl ?_ | refine c_leaf ?_ | refine i_gt rfl ?_ | refine i_gf rfl ?_ | refine i_gd rfl ?_ | refine c_t rfl ?_ | refine c_f rfl ?_ | refine i_conv rfl (by simp only [InR, List.length_map]; omega) ?_ | refine i_add rfl rfl (by simp only [InR, List.length_map]; omega) ?_ | refine i_sub rfl rfl (by simp only [InR, List.length_map]; omega) ?_ | refine i_ixm rfl rfl (by assumption) ?_ | refine i_iai rfl rfl (by omega) (by assumption) rfl ?_ | refine i_iam rfl rfl (by assumption) rfl ?_ | refine i_tk rfl rfl (by omega) ?_ | refine i_stb rfl ?_ | refine i_alloc rfl ?_ | refine i_box rfl rfl ?_ | refine i_nv rfl ?_ | refine c_node ?_ ?_ | refine i_g rfl (fun h => ?_) (fun h => ?_) | refine c_cond rfl (fun h => ?_) (fun h => ?_) | refine i_f rfl rfl (hC) rfl ?_)
  exact e_ret ⟨rfl, _, rfl, congrArg V.bool (by unfold holds; rw [← List.not_all_eq_any_not]; simp)⟩
def c_slices_Clone_int : Cmd :=
  (.seq
   (.ops [
   .op (some 2) none (.mov (.c (.sl .nil [])))])
   (.cut
   (.seq
   (.seq
   (.ops [
   .op (some 3) none (.mov (.t 0)),
   .op (some 4) none (.isnil false (.t 3))])
   (.cut
   (.cond (.t 4)
   (.seq
   (.ops [
   .op (some 2) none (.newArr 5504321)])
   .ret)
   .skip)))
   (.cut
   (.seq
   (.ops [
   .op (some 5) none (.bslA 5504321 1 []),
   .op (some 6) none (.mov (.t 0)),
   .op (some 7) none (.append 1 8 (.t 5) (.t 6)),
   .op (some 2) none (.mov (.t 7))])
   .ret)))))
def r_slices_Clone_int : List RVar := [.tmp 2]
def n_slices_Clone_int : Nat := 8
theorem k_slices_Clone_int : chkFn Go.Proofs.Try.prog 86 n_slices_Clone_int r_slices_Clone_int c_slices_Clone_int = true := by kernel_rfl
theorem c_slices_Clone_int_ct {G : Type} {H : HT G} (s : List Int) (hl : s.length ≤ 17592186044416) (σ : Store) (g : G) (h1 : σ 5504321 = .unused) (hp : ∀ nm, σ nm ≠ .unused → nm ∈ [5504321]) :
    Cc Go.Proofs.Try.prog H 86 [.sl .p (s.map i64V)] [5504321] σ g fun r σ' g' => (∃ gen, r = .msl 5504321 gen 0 s.length ∧ σ' = stOf [(5504321, .arr gen (s.map i64V))]) ∧ g' = g := by
  refine CT.step _ mixed k_slices_Clone_int hp fun hM => ?_
  repeat (first | refine i_len rfl ?_ | refine i_s rfl ?_ | refine c_seq ?_ | refine c_cut0 ?_ | refine c_ops ?_ | refine i_nil ?_ | refine e_seq ?_ | refine e_block ?_ | refine c_block ?_ | refine c_skip ?_ | refine c_ret ?_ | refine c_exit ?_ | refine e_exit rfl ?_ | refine i_s0 rfl ?_ | refine c_leaf ?_ | refine i_gt rfl ?_ | refine i_gf rfl ?_ | refine i_gd rfl ?_ | refine c_t rfl ?_ | refine c_f rfl ?_ | refine i_conv rfl (by simp only [InR, List.length_map]; omega) ?_ | refine i_add rfl rfl (by simp only [InR, List.length_map]; omega) ?_ | refine i_sub rfl rfl (by simp only [InR, List.length_map]; omega) ?_ | refine i_ixm rfl rfl (by assumption) ?_ | refine i_iai rfl rfl (by omega) (by assumption) rfl ?_ | refine i_iam rfl rfl (by assumption) rfl ?_ | refine i_tk rfl rfl (by omega) ?_ | refine i_stb rfl ?_ | refine i_alloc rfl ?_ | refine i_box rfl rfl ?_ | refine i_nv rfl ?_)
  refine i_isnil rfl fun b hb => ?_
  repeat (first | refine i_len rfl ?_ | refine i_s rfl ?_ | refine c_seq ?_ | refine c_cut0 ?_ | refine c_ops ?_ | refine i_nil ?_ | refine e_seq ?_ | refine e_block ?_ | refine c_block ?_ | refine c_skip ?_ | refine c_ret ?_ | refine c_exit ?_ | refine e_exit rfl ?_ | refine i_s0 rfl ?_ | refine c_leaf ?_ | refine i_gt rfl ?_ | refine i_gf rfl ?_ | refine i_gd rfl ?_ | refine c_t rfl ?_ | refine c_f rfl ?_ | refine i_conv rfl (by simp only [InR, List.length_map]; omega) ?_ | refine i_add rfl rfl (by simp only [InR, List.length_map]; omega) ?_ | refine i_sub rfl rfl (by simp only [InR, List.length_map]; omega) ?_ | refine i_ixm rfl rfl (by assumption) ?_ | refine i_iai rfl rfl (by omega) (by assumption) rfl ?_ | refine i_iam rfl rfl (by assumption) rfl ?_ | refine i_tk rfl rfl (by omega) ?_ | refine i_stb rfl ?_ | refine i_alloc rfl ?_ | refine i_box rfl rfl ?_ | refine i_nv rfl ?_)
  refine c_cond rfl (fun h => ?_) (fun h => ?_)
  · have e : s = [] := by simpa using hb (by simpa using h)
    subst e
    repeat (first | refine i_len rfl ?_ | refine i_s rfl ?_ | refine c_seq ?_ | refine c_cut0 ?_ | refine c_ops ?_ | refine i_nil ?_ | refine e_seq ?_ | refine e_block ?_ | refine c_block ?_ | refine c_skip ?_ | refine c_ret ?_ | refine c_exit ?_ | refine e_exit rfl ?_ | refine i_s0 rfl ?_ | refine c_leaf ?_ | refine i_gt rfl ?_ | refine i_gf rfl ?_ | refine i_gd rfl ?_ | refine c_t rfl ?_ | refine c_f rfl ?_ | refine i_conv rfl (by simp only [InR, List.length_map]; omega) ?_ | refine i_add rfl rfl (by simp only [InR, List.length_map]; omega) ?_ | refine i_sub rfl rfl (by simp only [InR, List.length_map]; omega) ?_ | refine i_ixm rfl rfl (by assumption) ?_ | refine i_iai rfl rfl (by omega) (by assumption) rfl ?_ | refine i_iam rfl rfl (by assumption) rfl ?_ | refine i_tk rfl rfl (by omega) ?_ | refine i_stb rfl ?_ | refine i_alloc rfl ?_ | refine i_box rfl rfl ?_ | refine i_nv rfl ?_)
    refine i_na h1 ?_
    repeat (first | refine i_len rfl ?_ | refine i_s rfl ?_ | refine c_seq ?_ | refine c_cut0 ?_ | refine c_ops ?_ | refine i_nil ?_ | refine e_seq ?_ | refine e_block ?_ | refine c_block ?_ | refine c_skip ?_ | refine c_ret ?_ | refine c_exit ?_ | refine e_exit rfl ?_ | refine i_s0 rfl ?_ | refine c_leaf ?_ | refine i_gt rfl ?_ | refine i_gf rfl ?_ | refine i_gd rfl ?_ | refine c_t rfl ?_ | refine c_f rfl ?_ | refine i_conv rfl (by simp only [InR, List.length_map]; omega) ?_ | refine i_add rfl rfl (by simp only [InR, List.length_map]; omega) ?_ | refine i_sub rfl rfl (by simp only [InR, List.length_map]; omega) ?_ | refine i_ixm rfl rfl (by assumption) ?_ | refine i_iai rfl rfl (by omega) (by assumption) rfl ?_ | refine i_iam rfl rfl (by assumption) rfl ?_ | refine i_tk rfl rfl (by omega) ?_ | refine i_stb rfl ?_ | refine i_alloc rfl ?_ | refine i_box rfl rfl ?_ | refine i_nv rfl ?_)
    exact e_ret ⟨rfl, _, rfl, rfl, rfl, ⟨0, rfl, restr_stOf _ _⟩, rfl⟩
  · repeat (first | refine i_len rfl ?_ | refine i_s rfl ?_ | refine c_seq ?_ | refine c_cut0 ?_ | refine c_ops ?_ | refine i_nil ?_ | refine e_seq ?_ | refine e_block ?_ | refine c_block ?_ | refine c_skip ?_ | refine c_ret ?_ | refine c_exit ?_ | refine e_exit rfl ?_ | refine i_s0 rfl ?_ | refine c_leaf ?_ | refine i_gt rfl ?_ | refine i_gf rfl ?_ | refine i_gd rfl ?_ | refine c_t rfl ?_ | refine c_f rfl ?_ | refine i_conv rfl (by simp only [InR, List.length_map]; omega) ?_ | refine i_add rfl rfl (by simp only [InR, List.length_map]; omega) ?_ | refine i_sub rfl rfl (by simp only [InR, List.length_map]; omega) ?_ | refine i_ixm rfl rfl (by assumption) ?_ | refine i_iai rfl rfl (by omega) (by assumption) rfl ?_ | refine i_iam rfl rfl (by assumption) rfl ?_ | refine i_tk rfl rfl (by omega) ?_ | refine i_stb rfl ?_ | refine i_alloc rfl ?_ | refine i_box rfl rfl ?_ | refine i_nv rfl ?_)
    refine i_bsla h1 rfl rfl rfl ?_
    repeat (first | refine i_len rfl ?_ | refine i_s rfl ?_ | refine c_seq ?_ | refine c_cut0 ?_ | refine c_ops ?_ | refine i_nil ?_ | refine e_seq ?_ | refine e_block ?_ | refine c_block ?_ | refine c_skip ?_ | refine c_ret ?_ | refine c_exit ?_ | refine e_exit rfl ?_ | refine i_s0 rfl ?_ | refine c_leaf ?_ | refine i_gt rfl ?_ | refine i_gf rfl ?_ | refine i_gd rfl ?_ | refine c_t rfl ?_ | refine c_f rfl ?_ | refine i_conv rfl (by simp only [InR, List.length_map]; omega) ?_ | refine i_add rfl rfl (by simp only [InR, List.length_map]; omega) ?_ | refine i_sub rfl rfl (by simp only [InR, List.length_map]; omega) ?_ | refine i_ixm rfl rfl (by assumption) ?_ | refine i_iai rfl rfl (by omega) (by assumption) rfl ?_ | refine i_iam rfl rfl (by assumption) rfl ?_ | refine i_tk rfl rfl (by omega) ?_ | refine i_stb rfl ?_ | refine i_alloc rfl ?_ | refine i_box rfl rfl ?_ | refine i_nv rfl ?_)
    refine i_appm rfl rfl rfl rfl rfl (fun row hrow => ?_) (by simp; omega) (by simp; omega) ?_
    · obtain ⟨n, _, rfl⟩ := List.mem_map.1 hrow
      exact ⟨rfl, rfl⟩
    repeat (first | refine i_len rfl ?_ | refine i_s rfl ?_ | refine c_seq ?_ | refine c_cut0 ?_ | refine c_ops ?_ | refine i_nil ?_ | refine e_seq ?_ | refine e_block ?_ | refine c_block ?_ | refine c_skip ?_ | refine c_ret ?_ | refine c_exit ?_ | refine e_exit rfl ?_ | refine i_s0 rfl ?_ | refine c_leaf ?_ | refine i_gt rfl ?_ | refine i_gf rfl ?_ | refine i_gd rfl ?_ | refine c_t rfl ?_ | refine c_f rfl ?_ | refine i_conv rfl (by simp only [InR, List.length_map]; omega) ?_ | refine i_add rfl rfl (by simp only [InR, List.length_map]; omega) ?_ | refine i_sub rfl rfl (by simp only [InR, List.length_map]; omega) ?_ | refine i_ixm rfl rfl (by assumption) ?_ | refine i_iai rfl rfl (by omega) (by assumption) rfl ?_ | refine i_iam rfl rfl (by assumption) rfl ?_ | refine i_tk rfl rfl (by omega) ?_ | refine i_stb rfl ?_ | refine i_alloc rfl ?_ | refine i_box rfl rfl ?_ | refine i_nv rfl ?_)
    refine e_ret ⟨rfl, _, rfl, rfl, rfl, ⟨1, ?_, ?_⟩, rfl⟩
    · show V.msl _ _ _ _ = V.msl _ _ _ _
      simp
    · rw [restr_stOf]; rfl
def c_R1_Copy : Cmd :=
  (.seq
   (.ops [
   .op (some 2) none (.mov (.c (.sl .nil [])))])
   (.cut
   (.seq
   (.ops [
   .op (some 3) none (.newArr 3136193)])
   (.cut
   (.seq
   (.ops [
   .op (some 4) none (.mov (.t 3)),
   .op (some 5) none (.mov (.t 0)),
   .op (some 6) none (.append 1 8 (.t 4) (.t 5)),
   .op (some 2) none (.mov (.t 6))])
   .ret)))))
def r_R1_Copy : List RVar := [.tmp 2]
def n_R1_Copy : Nat := 7
theorem k_R1_Copy : chkFn Go.Proofs.Try.prog 49 n_R1_Copy r_R1_Copy c_R1_Copy = true := by kernel_rfl
theorem c_R1_Copy_ct {G : Type} {H : HT G} (s : List Int) (hl : s.length ≤ 17592186044416) (σ : Store) (g : G) (h1 : σ 3136193 = .unused) (hp : ∀ nm, σ nm ≠ .unused → nm ∈ [3136193]) :
    Cc Go.Proofs.Try.prog H 49 [.sl .p (s.map i64V)] [3136193] σ g fun r σ' g' => (∃ gen, r = .msl 3136193 gen 0 s.length ∧ σ' = stOf [(3136193, .arr gen (s.map i64V))]) ∧ g' = g := by
  refine CT.step _ mixed k_R1_Copy hp fun hM => ?_
  repeat (first | refine i_len rfl ?_ | refine i_s rfl ?_ | refine c_seq ?_ | refine c_cut0 ?_ | refine c_ops ?_ | refine i_nil ?_ | refine e_seq ?_ | refine e_block ?_ | refine c_block ?_ | refine c_skip ?_ | refine c_ret ?_ | refine c_exit ?_ | refine e_exit rfl ?_ | refine i_s0 rfl ?_ | refine c_leaf ?_ | refine i_gt rfl ?_ | refine i_gf rfl ?_ | refine i_gd rfl ?_ | refine c_t rfl ?_ | refine c_f rfl ?_ | refine i_conv rfl (by simp only [InR, List.length_map]; omega) ?_ | refine i_add rfl rfl (by simp only [InR, List.length_map]; omega) ?_ | refine i_sub rfl rfl (by simp only [InR, List.length_map]; omega) ?_ | refine i_ixm rfl rfl (by assumption) ?_ | refine i_iai rfl rfl (by omega) (by assumption) rfl ?_ | refine i_iam rfl rfl (by assumption) rfl ?_ | refine i_tk rfl rfl (by omega) ?_ | refine i_stb rfl ?_ | refine i_alloc rfl ?_ | refine i_box rfl rfl ?_ | refine i_nv rfl ?_)
  refine i_na h1 ?_
  repeat (first | refine i_len rfl ?_ | refine i_s rfl ?_ | refine c_seq ?_ | refine c_cut0 ?_ | refine c_ops ?_ | refine i_nil ?_ | refine e_seq ?_ | refine e_block ?_ | refine c_block ?_ | refine c_skip ?_ | refine c_ret ?_ | refine c_exit ?_ | refine e_exit rfl ?_ | refine i_s0 rfl ?_ | refine c_leaf ?_ | refine i_gt rfl ?_ | refine i_gf rfl ?_ | refine i_gd rfl ?_ | refine c_t rfl ?_ | refine c_f rfl ?_ | refine i_conv rfl (by simp only [InR, List.length_map]; omega) ?_ | refine i_add rfl rfl (by simp only [InR, List.length_map]; omega) ?_ | refine i_sub rfl rfl (by simp only [InR, List.length_map]; omega) ?_ | refine i_ixm rfl rfl (by assumption) ?_ | refine i_iai rfl rfl (by omega) (by assumption) rfl ?_ | refine i_iam rfl rfl (by assumption) rfl ?_ | refine i_tk rfl rfl (by omega) ?_ | refine i_stb rfl ?_ | refine i_alloc rfl ?_ | refine i_box rfl rfl ?_ | refine i_nv rfl ?_)
  refine i_appm rfl rfl rfl rfl rfl (fun row hrow => ?_) (by simp; omega) (by simp; omega) ?_
  · obtain ⟨n, _, rfl⟩ := List.mem_map.1 hrow
    exact ⟨rfl, rfl⟩
  repeat (first | refine i_len rfl ?_ | refine i_s rfl ?_ | refine c_seq ?_ | refine c_cut0 ?_ | refine c_ops ?_ | refine i_nil ?_ | refine e_seq ?_ | refine e_block ?_ | refine c_block ?_ | refine c_skip ?_ | refine c_ret ?_ | refine c_exit ?_ | refine e_exit rfl ?_ | refine i_s0 rfl ?_ | refine c_leaf ?_ | refine i_gt rfl ?_ | refine i_gf rfl ?_ | refine i_gd rfl ?_ | refine c_t rfl ?_ | refine c_f rfl ?_ | refine i_conv rfl (by simp only [InR, List.length_map]; omega) ?_ | refine i_add rfl rfl (by simp only [InR, List.length_map]; omega) ?_ | refine i_sub rfl rfl (by simp only [InR, List.length_map]; omega) ?_ | refine i_ixm rfl rfl (by assumption) ?_ | refine i_iai rfl rfl (by omega) (by assumption) rfl ?_ | refine i_iam rfl rfl (by assumption) rfl ?_ | refine i_tk rfl rfl (by omega) ?_ | refine i_stb rfl ?_ | refine i_alloc rfl ?_ | refine i_box rfl rfl ?_ | refine i_nv rfl ?_)
  refine e_ret ⟨rfl, _, rfl, rfl, rfl, ⟨1, ?_, ?_⟩, rfl⟩
  · show V.msl _ _ _ _ = V.msl _ _ _ _
    simp
  · rw [restr_stOf]; rfl
theorem msl_all {l : List Int} {n : Nat} (h : l.length = n) : V.sl .p (((l.map i64V).drop 0).take n) = V.sl .p (l.map i64V) := by
  rw [List.drop_zero, List.take_of_length_le (by simp; omega)]
theorem er_msl {σ : Store} {nm gen i len n : Nat} {rows : List V} (hs : σ nm = .arr gen rows) : er σ (n + 1) (.msl nm gen i len) = .sl .p ((rows.drop i).take len) := by
  simp [er, hs]
def c_multi_Next : Cmd :=
  (.seq
   (.ops [
   .op (some 3) none (.box 4800196 4 (.t 0)),
   .op (some 6) none (.mov (.c (.sl .nil [])))])
   (.cut
   (.seq
   (.ops [
   .op (some 10) none (.mov (.t 1)),
   .op (some 11) none (.call (.s [5504321]) (.c (.fn 86 [])) [.t 10]),
   .op (some 7) none (.mov (.t 11))])
   (.cut
   (.seq
   (.seq
   (.ops [
   .op (some 12) none (.faddr 3 (.t 3)),
   .op (some 13) none (.load false 1 (.t 12)),
   .op (some 14) none (.mov (.t 2)),
   .op (some 15) none (.iaddr 3 (.t 13) (.t 14)),
   .op (some 16) none (.faddr 1 (.t 15)),
   .op (some 17) none (.load false 1 (.t 16)),
   .op (some 18) none (.len false (.t 17)),
   .op (some 19) none (.mov (.c (.int .i64 (0))))])
   (.cut
   (.block 0
   (.loop
   (.seq
   (.ops [
   .op (some 20) none (.bin .lss false [] (.t 19) (.t 18))])
   (.cut
   (.seq
   (.cond (.t 20)
   .skip
   (.exit 0))
   (.cut
   (.seq
   (.block 1
   (.seq
   (.ops [
   .op (some 21) none (.iaddr 2 (.t 17) (.t 19)),
   .op (some 22) none (.load true 2 (.t 21)),
   .op (some 9) none (.alloc 4800578 (.agg [.int .i64 (0), .int .i64 (0)])),
   .op none none (.store 2 (.t 9) (.t 22))])
   (.cut
   (.ops [
   .op (some 23) none (.mov (.t 7)),
   .op (some 24) none (.faddr 0 (.t 9)),
   .op (some 25) none (.load false 1 (.t 24)),
   .op (some 26) none (.faddr 1 (.t 9)),
   .op (some 27) none (.load false 1 (.t 26)),
   .op (some 28) none (.iaddr 1 (.t 23) (.t 25)),
   .op none none (.store 1 (.t 28) (.t 27))]))))
   (.cut
   (.ops [
   .op (some 29) none (.bin .add false [] (.t 19) (.c (.int .i64 (1)))),
   .op (some 19) none (.mov (.t 29))])))))))))))
   (.cut
   (.seq
   (.ops [
   .op (some 30) none (.mov (.t 7)),
   .op (some 6) none (.mov (.t 30))])
   .ret)))))))
def r_multi_Next : List RVar := [.tmp 6]
def n_multi_Next : Nat := 31
theorem k_multi_Next : chkFn Go.Proofs.Try.prog 75 n_multi_Next r_multi_Next c_multi_Next = true := by kernel_rfl
theorem f_multi_Next (m : MTask) (s : List Int) (hs : s.length ≤ 17592186044416) (op : Int) (h0 : 0 ≤ op) (o : MOp) (ho : m.ops[op.toNat]? = some o) (hl : o.post.length ≤ 140737488355328) (hv : asIn s.length o.post) :
    Fc Go.Proofs.Try.prog 75 [mtV m, .sl .p (s.map i64V), .int .i64 op] (.sl .p ((setAll s o.post).map i64V)) := by
  refine Fn.step mixed k_multi_Next ?_
  repeat (first | refine i_len rfl ?_ | refine i_s rfl ?_ | refine c_seq ?_ | refine c_cut0 ?_ | refine c_ops ?_ | refine i_nil ?_ | refine e_seq ?_ | refine e_block ?_ | refine c_block ?_ | refine c_skip ?_ | refine c_ret ?_ | refine c_exit ?_ | refine e_exit rfl ?_ | refine i_s0 rfl ?_ | refine c_leaf ?_ | refine i_gt rfl ?_ | refine i_gf rfl ?_ | refine i_gd rfl ?_ | refine c_t rfl ?_ | refine c_f rfl ?_ | refine i_conv rfl (by simp only [InR, List.length_map]; omega) ?_ | refine i_add rfl rfl (by simp only [InR, List.length_map]; omega) ?_ | refine i_sub rfl rfl (by simp only [InR, List.length_map]; omega) ?_ | refine i_ixm rfl rfl (by assumption) ?_ | refine i_iai rfl rfl (by omega) (by assumption) rfl ?_ | refine i_iam rfl rfl (by assumption) rfl ?_ | refine i_tk rfl rfl (by omega) ?_ | refine i_stb rfl ?_ | refine i_alloc rfl ?_ | refine i_box rfl rfl ?_ | refine i_nv rfl ?_)
  refine i_c rfl rfl rfl (c_slices_Clone_int_ct s hs _ _ rfl fun nm h => restr_mem nm h) ?_
  rintro _ _ _ ⟨⟨gen, rfl, rfl⟩, rfl⟩
  repeat (first | refine i_len rfl ?_ | refine i_s rfl ?_ | refine c_seq ?_ | refine c_cut0 ?_ | refine c_ops ?_ | refine i_nil ?_ | refine e_seq ?_ | refine e_block ?_ | refine c_block ?_ | refine c_skip ?_ | refine c_ret ?_ | refine c_exit ?_ | refine e_exit rfl ?_ | refine i_s0 rfl ?_ | refine c_leaf ?_ | refine i_gt rfl ?_ | refine i_gf rfl ?_ | refine i_gd rfl ?_ | refine c_t rfl ?_ | refine c_f rfl ?_ | refine i_conv rfl (by simp only [InR, List.length_map]; omega) ?_ | refine i_add rfl rfl (by simp only [InR, List.length_map]; omega) ?_ | refine i_sub rfl rfl (by simp only [InR, List.length_map]; omega) ?_ | refine i_ixm rfl rfl (by assumption) ?_ | refine i_iai rfl rfl (by omega) (by assumption) rfl ?_ | refine i_iam rfl rfl (by assumption) rfl ?_ | refine i_tk rfl rfl (by omega) ?_ | refine i_stb rfl ?_ | refine i_alloc rfl ?_ | refine i_box rfl rfl ?_ | refine i_nv rfl ?_)
  refine c_for o.post.length (fun k => [(7, .msl 5504321 gen 0 s.length), (17, .sl .p (o.post.map asV)), (18, .int .i64 o.post.length), (19, .int .i64 k)]) (fun k => [(5504321, .arr gen ((setAll s (o.post.take k)).map i64V))]) (fun _ => True) trivial ⟨by repeat (first | exact trivial | refine ⟨rfl, ?_⟩), by repeat (first | exact trivial | refine ⟨rfl, ?_⟩), rfl⟩ fun k hk _ => ?_
  repeat (first | refine i_len rfl ?_ | refine i_s rfl ?_ | refine c_seq ?_ | refine c_cut0 ?_ | refine c_ops ?_ | refine i_nil ?_ | refine e_seq ?_ | refine e_block ?_ | refine c_block ?_ | refine c_skip ?_ | refine c_ret ?_ | refine c_exit ?_ | refine e_exit rfl ?_ | refine i_s0 rfl ?_ | refine c_leaf ?_ | refine i_gt rfl ?_ | refine i_gf rfl ?_ | refine i_gd rfl ?_ | refine c_t rfl ?_ | refine c_f rfl ?_ | refine i_conv rfl (by simp only [InR, List.length_map]; omega) ?_ | refine i_add rfl rfl (by simp only [InR, List.length_map]; omega) ?_ | refine i_sub rfl rfl (by simp only [InR, List.length_map]; omega) ?_ | refine i_ixm rfl rfl (by assumption) ?_ | refine i_iai rfl rfl (by omega) (by assumption) rfl ?_ | refine i_iam rfl rfl (by assumption) rfl ?_ | refine i_tk rfl rfl (by omega) ?_ | refine i_stb rfl ?_ | refine i_alloc rfl ?_ | refine i_box rfl rfl ?_ | refine i_nv rfl ?_)
  refine c_cond rfl (fun h => ?_) (fun h => ?_)
  · have hlt : k < o.post.length := by simpa using h
    obtain ⟨a, ha⟩ := get_some hlt
    obtain ⟨v0, v1⟩ := hv a (mem_get ha)
    have hsl := setAll_len s (o.post.take k)
    clear h
    repeat (first | refine i_len rfl ?_ | refine i_s rfl ?_ | refine c_seq ?_ | refine c_cut0 ?_ | refine c_ops ?_ | refine i_nil ?_ | refine e_seq ?_ | refine e_block ?_ | refine c_block ?_ | refine c_skip ?_ | refine c_ret ?_ | refine c_exit ?_ | refine e_exit rfl ?_ | refine i_s0 rfl ?_ | refine c_leaf ?_ | refine i_gt rfl ?_ | refine i_gf rfl ?_ | refine i_gd rfl ?_ | refine c_t rfl ?_ | refine c_f rfl ?_ | refine i_conv rfl (by simp only [InR, List.length_map]; omega) ?_ | refine i_add rfl rfl (by simp only [InR, List.length_map]; omega) ?_ | refine i_sub rfl rfl (by simp only [InR, List.length_map]; omega) ?_ | refine i_ixm rfl rfl (by assumption) ?_ | refine i_iai rfl rfl (by omega) (by assumption) rfl ?_ | refine i_iam rfl rfl (by assumption) rfl ?_ | refine i_tk rfl rfl (by omega) ?_ | refine i_stb rfl ?_ | refine i_alloc rfl ?_ | refine i_box rfl rfl ?_ | refine i_nv rfl ?_)
    refine i_ima rfl rfl rfl rfl v0 v1 rfl ?_
    repeat (first | refine i_len rfl ?_ | refine i_s rfl ?_ | refine c_seq ?_ | refine c_cut0 ?_ | refine c_ops ?_ | refine i_nil ?_ | refine e_seq ?_ | refine e_block ?_ | refine c_block ?_ | refine c_skip ?_ | refine c_ret ?_ | refine c_exit ?_ | refine e_exit rfl ?_ | refine i_s0 rfl ?_ | refine c_leaf ?_ | refine i_gt rfl ?_ | refine i_gf rfl ?_ | refine i_gd rfl ?_ | refine c_t rfl ?_ | refine c_f rfl ?_ | refine i_conv rfl (by simp only [InR, List.length_map]; omega) ?_ | refine i_add rfl rfl (by simp only [InR, List.length_map]; omega) ?_ | refine i_sub rfl rfl (by simp only [InR, List.length_map]; omega) ?_ | refine i_ixm rfl rfl (by assumption) ?_ | refine i_iai rfl rfl (by omega) (by assumption) rfl ?_ | refine i_iam rfl rfl (by assumption) rfl ?_ | refine i_tk rfl rfl (by omega) ?_ | refine i_stb rfl ?_ | refine i_alloc rfl ?_ | refine i_box rfl rfl ?_ | refine i_nv rfl ?_)
    refine i_sti rfl rfl rfl rfl rfl (by omega) ?_
    repeat (first | refine i_len rfl ?_ | refine i_s rfl ?_ | refine c_seq ?_ | refine c_cut0 ?_ | refine c_ops ?_ | refine i_nil ?_ | refine e_seq ?_ | refine e_block ?_ | refine c_block ?_ | refine c_skip ?_ | refine c_ret ?_ | refine c_exit ?_ | refine e_exit rfl ?_ | refine i_s0 rfl ?_ | refine c_leaf ?_ | refine i_gt rfl ?_ | refine i_gf rfl ?_ | refine i_gd rfl ?_ | refine c_t rfl ?_ | refine c_f rfl ?_ | refine i_conv rfl (by simp only [InR, List.length_map]; omega) ?_ | refine i_add rfl rfl (by simp only [InR, List.length_map]; omega) ?_ | refine i_sub rfl rfl (by simp only [InR, List.length_map]; omega) ?_ | refine i_ixm rfl rfl (by assumption) ?_ | refine i_iai rfl rfl (by omega) (by assumption) rfl ?_ | refine i_iam rfl rfl (by assumption) rfl ?_ | refine i_tk rfl rfl (by omega) ?_ | refine i_stb rfl ?_ | refine i_alloc rfl ?_ | refine i_box rfl rfl ?_ | refine i_nv rfl ?_)
    refine e_for hlt trivial ⟨⟨rfl, rfl, rfl, rfl, trivial⟩, ⟨?_, trivial⟩, rfl⟩
    rw [take_succ_get ha, setAll_snoc, Nat.zero_add]; rfl
  · have hge : ¬ k < o.post.length := by simpa using h
    rw [List.take_of_length_le (by omega)]
    repeat (first | refine i_len rfl ?_ | refine i_s rfl ?_ | refine c_seq ?_ | refine c_cut0 ?_ | refine c_ops ?_ | refine i_nil ?_ | refine e_seq ?_ | refine e_block ?_ | refine c_block ?_ | refine c_skip ?_ | refine c_ret ?_ | refine c_exit ?_ | refine e_exit rfl ?_ | refine i_s0 rfl ?_ | refine c_leaf ?_ | refine i_gt rfl ?_ | refine i_gf rfl ?_ | refine i_gd rfl ?_ | refine c_t rfl ?_ | refine c_f rfl ?_ | refine i_conv rfl (by simp only [InR, List.length_map]; omega) ?_ | refine i_add rfl rfl (by simp only [InR, List.length_map]; omega) ?_ | refine i_sub rfl rfl (by simp only [InR, List.length_map]; omega) ?_ | refine i_ixm rfl rfl (by assumption) ?_ | refine i_iai rfl rfl (by omega) (by assumption) rfl ?_ | refine i_iam rfl rfl (by assumption) rfl ?_ | refine i_tk rfl rfl (by omega) ?_ | refine i_stb rfl ?_ | refine i_alloc rfl ?_ | refine i_box rfl rfl ?_ | refine i_nv rfl ?_)
    exact e_ret ⟨rfl, _, rfl, ((er_msl (i := 0) (len := s.length) (n := 5) rfl).trans (msl_all (setAll_len _ _))).symm⟩
end Hm
end
