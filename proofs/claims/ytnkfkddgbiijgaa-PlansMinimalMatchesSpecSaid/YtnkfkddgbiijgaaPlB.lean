/- Contracts: plans that are shortened. -/
import Derived.Test.YtnkfkddgbiijgaaPlA
section
/- Contracts: plans that are shortened. -/
namespace Hm
open Go
set_option maxRecDepth 100000
set_option maxHeartbeats 4000000
set_option linter.unusedSimpArgs false
set_option linter.unusedVariables false
theorem sub_rng {a b : List Int} {n : Nat} (h : a.Sublist b) (hp : ∀ x ∈ b, 0 ≤ x ∧ x < n) : ∀ x ∈ a, 0 ≤ x ∧ x < n := fun x hx => hp x (h.subset hx)
def c_plans_Reduce : Cmd :=
  (.seq
   (.ops [
   .op (some 2) none (.box 832132 4 (.t 0)),
   .op (some 4) none (.mov (.c (.sl .nil []))),
   .op (some 5) none (.alloc 832322 (.agg [.int .i64 (0), .int .i64 (0)]))])
   (.cut
   (.seq
   (.seq
   (.ops [
   .op (some 10) none (.load true 4 (.t 2)),
   .op (some 11) none (.mov (.t 1)),
   .op (some 12) none (.call .f (.c (.fn 33 [])) [.t 10, .t 11]),
   .op (some 6) none (.alloc 832386 (.agg [.int .i64 (0), .int .i64 (0)])),
   .op none none (.store 2 (.t 6) (.t 12))])
   (.cut
   (.seq
   (.ops [
   .op (some 13) none (.load true 2 (.t 6)),
   .op (some 14) none (.build [.int .i64 (0), .int .i64 (0)] []),
   .op (some 15) none (.bin .neq true [.i, .i] (.t 13) (.t 14))])
   (.cut
   (.cond (.t 15)
   (.seq
   (.ops [
   .op (some 16) none (.load true 2 (.t 6)),
   .op (some 4) none (.mov (.c (.sl .nil []))),
   .op none none (.store 2 (.t 5) (.t 16))])
   .ret)
   .skip)))))
   (.cut
   (.seq
   (.ops [
   .op (some 17) none (.mov (.t 1)),
   .op (some 18) none (.call .f (.c (.fn 34 [])) [.t 17]),
   .op (some 7) none (.mov (.t 18))])
   (.cut
   (.seq
   (.seq
   (.ops [
   .op (some 8) none (.mov (.c (.int .i64 (0))))])
   (.cut
   (.block 0
   (.loop
   (.seq
   (.seq
   (.ops [
   .op (some 19) none (.mov (.t 8)),
   .op (some 20) none (.mov (.t 7)),
   .op (some 21) none (.len false (.t 20)),
   .op (some 22) none (.bin .lss false [] (.t 19) (.t 21))])
   (.cut
   (.cond (.t 22)
   .skip
   (.exit 0))))
   (.cut
   (.block 1
   (.seq
   (.ops [
   .op (some 23) none (.load true 4 (.t 2)),
   .op (some 24) none (.mov (.t 7)),
   .op (some 25) none (.mov (.t 8)),
   .op (some 26) none (.call .f (.c (.fn 35 [])) [.t 23, .t 24, .t 25]),
   .op (some 9) none (.mov (.t 26))])
   (.cut
   (.seq
   (.ops [
   .op (some 27) none (.load true 4 (.t 2)),
   .op (some 28) none (.faddr 1 (.t 2)),
   .op (some 29) none (.load false 1 (.t 28)),
   .op (some 30) none (.mov (.t 9)),
   .op (some 31) none (.call .f (.c (.fn 36 [])) [.t 27, .t 29, .t 30])])
   (.cut
   (.cond (.t 31)
   (.ops [
   .op (some 32) none (.mov (.t 9)),
   .op (some 7) none (.mov (.t 32))])
   (.ops [
   .op (some 33) none (.mov (.t 8)),
   .op (some 34) none (.bin .add false [] (.t 33) (.c (.int .i64 (1)))),
   .op (some 8) none (.mov (.t 34))])))))))))))))
   (.cut
   (.seq
   (.ops [
   .op (some 35) none (.mov (.t 7)),
   .op (some 36) none (.build [.int .i64 (0), .int .i64 (0)] []),
   .op (some 4) none (.mov (.t 35)),
   .op none none (.store 2 (.t 5) (.t 36))])
   .ret)))))))))
def r_plans_Reduce : List RVar := [.tmp 4, .cell true 2 5]
def n_plans_Reduce : Nat := 37
theorem k_plans_Reduce : chkFn Go.Proofs.Try.prog 13 n_plans_Reduce r_plans_Reduce c_plans_Reduce = true := by kernel_rfl
theorem f_plans_Reduce_bad (t : STask) (ho : SkOk t) (plan : List Int) (hl : plan.length ≤ 140737488355328) (hb : solF t plan ≠ okF) : Fc Go.Proofs.Try.prog 13 [skV t, .sl .p (plan.map i64V)] (.tup [.sl .p [], ftV (solF t plan)]) := by
  refine Fn.step mixed k_plans_Reduce ?_
  repeat' (first | refine i_len rfl ?_ | refine i_s rfl ?_ | refine i_lenm rfl rfl rfl ?_ | refine c_seq ?_ | refine c_cut0 ?_ | refine c_ops ?_ | refine i_nil ?_ | refine e_seq ?_ | refine e_block ?_ | refine c_block ?_ | refine c_skip ?_ | refine c_ret ?_ | refine c_exit ?_ | refine e_exit rfl ?_ | refine i_s0 rfl ?_ | refine c_leaf ?_ | refine i_gt rfl ?_ | refine i_gf rfl ?_ | refine i_gd rfl ?_ | refine c_t rfl ?_ | refine c_f rfl ?_ | refine i_conv rfl (by simp only [InR, List.length_map]; omega) ?_ | refine i_add rfl rfl (by simp only [InR, List.length_map]; omega) ?_ | refine i_sub rfl rfl (by simp only [InR, List.length_map]; omega) ?_ | refine i_ixm rfl rfl (by assumption) ?_ | refine i_iai rfl rfl (by omega) (by assumption) rfl ?_ | refine i_iam rfl rfl (by assumption) rfl ?_ | refine i_tk rfl rfl (by omega) ?_ | refine i_stb rfl ?_ | refine i_alloc rfl ?_ | refine i_box rfl rfl ?_ | refine i_nv rfl ?_ | refine c_node ?_ ?_ | refine i_g rfl (fun h => ?_) (fun h => ?_) | refine c_cond rfl (fun h => ?_) (fun h => ?_) | refine i_f rfl rfl (f_plans_solution t ho plan hl) rfl ?_)
  · exact e_ret ⟨rfl, _, rfl, rfl⟩
  all_goals exact absurd (eq_ok (by assumption)) hb
theorem f_plans_Reduce_ok (t : STask) (ho : SkOk t) (plan : List Int) (hb : solF t plan = okF) : Fc Go.Proofs.Try.prog 13 [skV t, .sl .p (plan.map i64V)] (.tup [.sl .p ((redL t plan 0).map i64V), ftV okF]) := by
  obtain ⟨hpf, hw⟩ := solF_ok hb
  obtain ⟨hv, h60, hr, _⟩ := plFault_ok hpf
  have hF := f_plans_solution t ho plan (by omega)
  rw [hb] at hF
  have hC := f_slices_Clone_int plan (by omega)
  refine Fn.step mixed k_plans_Reduce ?_
  repeat' (first | refine i_len rfl ?_ | refine i_s rfl ?_ | refine i_lenm rfl rfl rfl ?_ | refine c_seq ?_ | refine c_cut0 ?_ | refine c_ops ?_ | refine i_nil ?_ | refine e_seq ?_ | refine e_block ?_ | refine c_block ?_ | refine c_skip ?_ | refine c_ret ?_ | refine c_exit ?_ | refine e_exit rfl ?_ | refine i_s0 rfl ?_ | refine c_leaf ?_ | refine i_gt rfl ?_ | refine i_gf rfl ?_ | refine i_gd rfl ?_ | refine c_t rfl ?_ | refine c_f rfl ?_ | refine i_conv rfl (by simp only [InR, List.length_map]; omega) ?_ | refine i_add rfl rfl (by simp only [InR, List.length_map]; omega) ?_ | refine i_sub rfl rfl (by simp only [InR, List.length_map]; omega) ?_ | refine i_ixm rfl rfl (by assumption) ?_ | refine i_iai rfl rfl (by omega) (by assumption) rfl ?_ | refine i_iam rfl rfl (by assumption) rfl ?_ | refine i_tk rfl rfl (by omega) ?_ | refine i_stb rfl ?_ | refine i_alloc rfl ?_ | refine i_box rfl rfl ?_ | refine i_nv rfl ?_ | refine c_node ?_ ?_ | refine i_g rfl (fun h => ?_) (fun h => ?_) | refine c_cond rfl (fun h => ?_) (fun h => ?_) | refine i_f rfl rfl (hF) rfl ?_ | refine i_f rfl rfl (hC) rfl ?_)
  refine c_lp (ι := List Int × Nat) (fun p => [(2, .bptr 832132 0), (5, .bptr 832322 0), (7, .sl .p (p.1.map i64V)), (8, .int .i64 p.2)])
    (fun p => [(832132, .box (skV t)), (832322, .box (ftV okF))])
    (fun p => p.1.length ≤ 60 ∧ (∀ x ∈ p.1, 0 ≤ x ∧ x < t.ops.length) ∧ worksB t t.init p.1 = true ∧ redL t p.1 p.2 = redL t plan 0) (fun p => p.1.length - p.2) (plan, 0) ⟨h60, hr, hw, rfl⟩ ⟨by repeat (first | exact trivial | refine ⟨rfl, ?_⟩), by repeat (first | exact trivial | refine ⟨rfl, ?_⟩), rfl⟩ fun p hi => ?_
  obtain ⟨out, k⟩ := p
  obtain ⟨h2, h3, h4, h5⟩ := hi
  simp only at h2 h3 h4 h5
  clear hF hC
  repeat (first | refine i_len rfl ?_ | refine i_s rfl ?_ | refine i_lenm rfl rfl rfl ?_ | refine c_seq ?_ | refine c_cut0 ?_ | refine c_ops ?_ | refine i_nil ?_ | refine e_seq ?_ | refine e_block ?_ | refine c_block ?_ | refine c_skip ?_ | refine c_ret ?_ | refine c_exit ?_ | refine e_exit rfl ?_ | refine i_s0 rfl ?_ | refine c_leaf ?_ | refine i_gt rfl ?_ | refine i_gf rfl ?_ | refine i_gd rfl ?_ | refine c_t rfl ?_ | refine c_f rfl ?_ | refine i_conv rfl (by simp only [InR, List.length_map]; omega) ?_ | refine i_add rfl rfl (by simp only [InR, List.length_map]; omega) ?_ | refine i_sub rfl rfl (by simp only [InR, List.length_map]; omega) ?_ | refine i_ixm rfl rfl (by assumption) ?_ | refine i_iai rfl rfl (by omega) (by assumption) rfl ?_ | refine i_iam rfl rfl (by assumption) rfl ?_ | refine i_tk rfl rfl (by omega) ?_ | refine i_stb rfl ?_ | refine i_alloc rfl ?_ | refine i_box rfl rfl ?_ | refine i_nv rfl ?_)
  refine c_cond rfl (fun h => ?_) (fun h => ?_)
  · have hlt : k < out.length := by simpa using h
    obtain ⟨e, he⟩ := works_end h4
    obtain ⟨e1, he1⟩ := endS_take he k
    have hO := f_plans_without t hv out (by omega) h3 k hlt e1 he1
    have hsub := omitL_sub t hlt
    have hol := omitL_len t hlt
    have hor := sub_rng hsub h3
    have hW := f_strips_Works t hv t.init hv.init (omitL t out k) (by omega) hor
    clear h
    cases hw2 : worksB t t.init (omitL t out k) with
    | true =>
      rw [hw2] at hW
      rw [redL_cut hlt hw2] at h5
      repeat (first | refine i_len rfl ?_ | refine i_s rfl ?_ | refine i_lenm rfl rfl rfl ?_ | refine c_seq ?_ | refine c_cut0 ?_ | refine c_ops ?_ | refine i_nil ?_ | refine e_seq ?_ | refine e_block ?_ | refine c_block ?_ | refine c_skip ?_ | refine c_ret ?_ | refine c_exit ?_ | refine e_exit rfl ?_ | refine i_s0 rfl ?_ | refine c_leaf ?_ | refine i_gt rfl ?_ | refine i_gf rfl ?_ | refine i_gd rfl ?_ | refine c_t rfl ?_ | refine c_f rfl ?_ | refine i_conv rfl (by simp only [InR, List.length_map]; omega) ?_ | refine i_add rfl rfl (by simp only [InR, List.length_map]; omega) ?_ | refine i_sub rfl rfl (by simp only [InR, List.length_map]; omega) ?_ | refine i_ixm rfl rfl (by assumption) ?_ | refine i_iai rfl rfl (by omega) (by assumption) rfl ?_ | refine i_iam rfl rfl (by assumption) rfl ?_ | refine i_tk rfl rfl (by omega) ?_ | refine i_stb rfl ?_ | refine i_alloc rfl ?_ | refine i_box rfl rfl ?_ | refine i_nv rfl ?_ | refine i_f rfl rfl (hO) rfl ?_ | refine i_f rfl rfl (hW) rfl ?_)
      exact e_lp (omitL t out k, k) ⟨by simp only; omega, hor, hw2, h5⟩ (by simp only; omega) ⟨by repeat (first | exact trivial | refine ⟨rfl, ?_⟩), by repeat (first | exact trivial | refine ⟨rfl, ?_⟩), rfl⟩
    | false =>
      rw [hw2] at hW
      rw [redL_next hlt hw2] at h5
      repeat (first | refine i_len rfl ?_ | refine i_s rfl ?_ | refine i_lenm rfl rfl rfl ?_ | refine c_seq ?_ | refine c_cut0 ?_ | refine c_ops ?_ | refine i_nil ?_ | refine e_seq ?_ | refine e_block ?_ | refine c_block ?_ | refine c_skip ?_ | refine c_ret ?_ | refine c_exit ?_ | refine e_exit rfl ?_ | refine i_s0 rfl ?_ | refine c_leaf ?_ | refine i_gt rfl ?_ | refine i_gf rfl ?_ | refine i_gd rfl ?_ | refine c_t rfl ?_ | refine c_f rfl ?_ | refine i_conv rfl (by simp only [InR, List.length_map]; omega) ?_ | refine i_add rfl rfl (by simp only [InR, List.length_map]; omega) ?_ | refine i_sub rfl rfl (by simp only [InR, List.length_map]; omega) ?_ | refine i_ixm rfl rfl (by assumption) ?_ | refine i_iai rfl rfl (by omega) (by assumption) rfl ?_ | refine i_iam rfl rfl (by assumption) rfl ?_ | refine i_tk rfl rfl (by omega) ?_ | refine i_stb rfl ?_ | refine i_alloc rfl ?_ | refine i_box rfl rfl ?_ | refine i_nv rfl ?_ | refine i_f rfl rfl (hO) rfl ?_ | refine i_f rfl rfl (hW) rfl ?_)
      exact e_lp (out, k + 1) ⟨h2, h3, h4, h5⟩ (by simp only; omega) ⟨by repeat (first | exact trivial | refine ⟨rfl, ?_⟩), by repeat (first | exact trivial | refine ⟨rfl, ?_⟩), rfl⟩
  · have hge : ¬ k < out.length := by simpa using h
    rw [redL_end hge] at h5
    rw [← h5]
    repeat (first | refine i_len rfl ?_ | refine i_s rfl ?_ | refine i_lenm rfl rfl rfl ?_ | refine c_seq ?_ | refine c_cut0 ?_ | refine c_ops ?_ | refine i_nil ?_ | refine e_seq ?_ | refine e_block ?_ | refine c_block ?_ | refine c_skip ?_ | refine c_ret ?_ | refine c_exit ?_ | refine e_exit rfl ?_ | refine i_s0 rfl ?_ | refine c_leaf ?_ | refine i_gt rfl ?_ | refine i_gf rfl ?_ | refine i_gd rfl ?_ | refine c_t rfl ?_ | refine c_f rfl ?_ | refine i_conv rfl (by simp only [InR, List.length_map]; omega) ?_ | refine i_add rfl rfl (by simp only [InR, List.length_map]; omega) ?_ | refine i_sub rfl rfl (by simp only [InR, List.length_map]; omega) ?_ | refine i_ixm rfl rfl (by assumption) ?_ | refine i_iai rfl rfl (by omega) (by assumption) rfl ?_ | refine i_iam rfl rfl (by assumption) rfl ?_ | refine i_tk rfl rfl (by omega) ?_ | refine i_stb rfl ?_ | refine i_alloc rfl ?_ | refine i_box rfl rfl ?_ | refine i_nv rfl ?_)
    exact e_ret ⟨rfl, _, rfl, rfl⟩
def c_R2_ReducedFrom : Cmd :=
  (.seq
   (.ops [
   .op (some 3) none (.box 960196 4 (.t 0)),
   .op (some 6) none (.mov (.c (.sl .nil [])))])
   (.cut
   (.seq
   (.seq
   (.ops [
   .op (some 8) none (.mov (.t 2)),
   .op (some 9) none (.mov (.t 1)),
   .op (some 10) none (.len false (.t 9)),
   .op (some 11) none (.bin .geq false [] (.t 8) (.t 10))])
   (.cut
   (.cond (.t 11)
   (.seq
   (.ops [
   .op (some 12) none (.mov (.t 1)),
   .op (some 6) none (.mov (.t 12))])
   .ret)
   .skip)))
   (.cut
   (.seq
   (.ops [
   .op (some 13) none (.load true 4 (.t 3)),
   .op (some 14) none (.mov (.t 1)),
   .op (some 15) none (.mov (.t 2)),
   .op (some 16) none (.call .f (.c (.fn 37 [])) [.t 13, .t 14, .t 15]),
   .op (some 7) none (.mov (.t 16))])
   (.cut
   (.seq
   (.seq
   (.ops [
   .op (some 17) none (.load true 4 (.t 3)),
   .op (some 18) none (.mov (.t 7)),
   .op (some 19) none (.call .f (.c (.fn 32 [])) [.t 17, .t 18])])
   (.cut
   (.cond (.t 19)
   (.seq
   (.ops [
   .op (some 20) none (.load true 4 (.t 3)),
   .op (some 21) none (.mov (.t 7)),
   .op (some 22) none (.mov (.t 2)),
   .op (some 23) none (.call .f (.c (.fn 15 [])) [.t 20, .t 21, .t 22]),
   .op (some 6) none (.mov (.t 23))])
   .ret)
   .skip)))
   (.cut
   (.seq
   (.ops [
   .op (some 24) none (.load true 4 (.t 3)),
   .op (some 25) none (.mov (.t 1)),
   .op (some 26) none (.mov (.t 2)),
   .op (some 27) none (.bin .add false [] (.t 26) (.c (.int .i64 (1)))),
   .op (some 28) none (.call .f (.c (.fn 15 [])) [.t 24, .t 25, .t 27]),
   .op (some 6) none (.mov (.t 28))])
   .ret)))))))))
def r_R2_ReducedFrom : List RVar := [.tmp 6]
def n_R2_ReducedFrom : Nat := 29
theorem k_R2_ReducedFrom : chkFn Go.Proofs.Try.prog 15 n_R2_ReducedFrom r_R2_ReducedFrom c_R2_ReducedFrom = true := by kernel_rfl
theorem f_R2_ReducedFrom (t : STask) (hv : SV t) : ∀ (n : Nat) (plan : List Int) (i : Nat), plan.length - i ≤ n → i ≤ 1000 → plan.length ≤ 60 → (∀ x ∈ plan, 0 ≤ x ∧ x < t.ops.length) → worksB t t.init plan = true →
    Fc Go.Proofs.Try.prog 15 [skV t, .sl .p (plan.map i64V), .int .i64 i] (.sl .p ((redL t plan i).map i64V)) := by
  intro n
  induction n with
  | zero =>
    intro plan i hn hi h60 hr hw
    rw [redL_end (by omega)]
    refine Fn.step mixed k_R2_ReducedFrom ?_
    repeat' (first | refine i_len rfl ?_ | refine i_s rfl ?_ | refine i_lenm rfl rfl rfl ?_ | refine c_seq ?_ | refine c_cut0 ?_ | refine c_ops ?_ | refine i_nil ?_ | refine e_seq ?_ | refine e_block ?_ | refine c_block ?_ | refine c_skip ?_ | refine c_ret ?_ | refine c_exit ?_ | refine e_exit rfl ?_ | refine i_s0 rfl ?_ | refine c_leaf ?_ | refine i_gt rfl ?_ | refine i_gf rfl ?_ | refine i_gd rfl ?_ | refine c_t rfl ?_ | refine c_f rfl ?_ | refine i_conv rfl (by simp only [InR, List.length_map]; omega) ?_ | refine i_add rfl rfl (by simp only [InR, List.length_map]; omega) ?_ | refine i_sub rfl rfl (by simp only [InR, List.length_map]; omega) ?_ | refine i_ixm rfl rfl (by assumption) ?_ | refine i_iai rfl rfl (by omega) (by assumption) rfl ?_ | refine i_iam rfl rfl (by assumption) rfl ?_ | refine i_tk rfl rfl (by omega) ?_ | refine i_stb rfl ?_ | refine i_alloc rfl ?_ | refine i_box rfl rfl ?_ | refine i_nv rfl ?_ | refine c_node ?_ ?_ | refine i_g rfl (fun h => ?_) (fun h => ?_) | refine c_cond rfl (fun h => ?_) (fun h => ?_))
    all_goals first
      | exact e_ret ⟨rfl, _, rfl, rfl⟩
      | (exfalso; clear hv hr hw; simp at *; omega)
  | succ n ih =>
    intro plan i hn hi h60 hr hw
    by_cases hlt : i < plan.length
    · obtain ⟨e, he⟩ := works_end hw
      obtain ⟨e1, he1⟩ := endS_take he i
      have hO := f_R2_omitted t hv plan (by omega) hr i hlt e1 he1
      have hol := omitL_len t hlt
      have hor := sub_rng (omitL_sub t hlt) hr
      have hS := f_R1_Solves t hv (omitL t plan i) (by omega) hor
      cases hw2 : worksB t t.init (omitL t plan i) with
      | true =>
        rw [hw2] at hS
        have hI := ih (omitL t plan i) i (by omega) hi (by omega) hor hw2
        rw [redL_cut hlt hw2]
        refine Fn.step mixed k_R2_ReducedFrom ?_
        repeat' (first | refine i_len rfl ?_ | refine i_s rfl ?_ | refine i_lenm rfl rfl rfl ?_ | refine c_seq ?_ | refine c_cut0 ?_ | refine c_ops ?_ | refine i_nil ?_ | refine e_seq ?_ | refine e_block ?_ | refine c_block ?_ | refine c_skip ?_ | refine c_ret ?_ | refine c_exit ?_ | refine e_exit rfl ?_ | refine i_s0 rfl ?_ | refine c_leaf ?_ | refine i_gt rfl ?_ | refine i_gf rfl ?_ | refine i_gd rfl ?_ | refine c_t rfl ?_ | refine c_f rfl ?_ | refine i_conv rfl (by simp only [InR, List.length_map]; omega) ?_ | refine i_add rfl rfl (by simp only [InR, List.length_map]; omega) ?_ | refine i_sub rfl rfl (by simp only [InR, List.length_map]; omega) ?_ | refine i_ixm rfl rfl (by assumption) ?_ | refine i_iai rfl rfl (by omega) (by assumption) rfl ?_ | refine i_iam rfl rfl (by assumption) rfl ?_ | refine i_tk rfl rfl (by omega) ?_ | refine i_stb rfl ?_ | refine i_alloc rfl ?_ | refine i_box rfl rfl ?_ | refine i_nv rfl ?_ | refine c_node ?_ ?_ | refine i_g rfl (fun h => ?_) (fun h => ?_) | refine c_cond rfl (fun h => ?_) (fun h => ?_) | refine i_f rfl rfl (hO) rfl ?_ | refine i_f rfl rfl (hS) rfl ?_ | refine i_f rfl rfl (hI) rfl ?_)
        all_goals first
          | exact e_ret ⟨rfl, _, rfl, rfl⟩
          | (exfalso; clear hv hr hw hO hS hI ih hor; simp at *; omega)
      | false =>
        rw [hw2] at hS
        have hI := ih plan (i + 1) (by omega) (by omega) h60 hr hw
        rw [redL_next hlt hw2]
        refine Fn.step mixed k_R2_ReducedFrom ?_
        repeat' (first | refine i_len rfl ?_ | refine i_s rfl ?_ | refine i_lenm rfl rfl rfl ?_ | refine c_seq ?_ | refine c_cut0 ?_ | refine c_ops ?_ | refine i_nil ?_ | refine e_seq ?_ | refine e_block ?_ | refine c_block ?_ | refine c_skip ?_ | refine c_ret ?_ | refine c_exit ?_ | refine e_exit rfl ?_ | refine i_s0 rfl ?_ | refine c_leaf ?_ | refine i_gt rfl ?_ | refine i_gf rfl ?_ | refine i_gd rfl ?_ | refine c_t rfl ?_ | refine c_f rfl ?_ | refine i_conv rfl (by simp only [InR, List.length_map]; omega) ?_ | refine i_add rfl rfl (by simp only [InR, List.length_map]; omega) ?_ | refine i_sub rfl rfl (by simp only [InR, List.length_map]; omega) ?_ | refine i_ixm rfl rfl (by assumption) ?_ | refine i_iai rfl rfl (by omega) (by assumption) rfl ?_ | refine i_iam rfl rfl (by assumption) rfl ?_ | refine i_tk rfl rfl (by omega) ?_ | refine i_stb rfl ?_ | refine i_alloc rfl ?_ | refine i_box rfl rfl ?_ | refine i_nv rfl ?_ | refine c_node ?_ ?_ | refine i_g rfl (fun h => ?_) (fun h => ?_) | refine c_cond rfl (fun h => ?_) (fun h => ?_) | refine i_f rfl rfl (hO) rfl ?_ | refine i_f rfl rfl (hS) rfl ?_ | refine i_f rfl rfl (hI) rfl ?_)
        all_goals first
          | exact e_ret ⟨rfl, _, rfl, rfl⟩
          | (exfalso; clear hv hr hw hO hS hI ih hor; simp at *; omega)
    · rw [redL_end hlt]
      refine Fn.step mixed k_R2_ReducedFrom ?_
      repeat' (first | refine i_len rfl ?_ | refine i_s rfl ?_ | refine i_lenm rfl rfl rfl ?_ | refine c_seq ?_ | refine c_cut0 ?_ | refine c_ops ?_ | refine i_nil ?_ | refine e_seq ?_ | refine e_block ?_ | refine c_block ?_ | refine c_skip ?_ | refine c_ret ?_ | refine c_exit ?_ | refine e_exit rfl ?_ | refine i_s0 rfl ?_ | refine c_leaf ?_ | refine i_gt rfl ?_ | refine i_gf rfl ?_ | refine i_gd rfl ?_ | refine c_t rfl ?_ | refine c_f rfl ?_ | refine i_conv rfl (by simp only [InR, List.length_map]; omega) ?_ | refine i_add rfl rfl (by simp only [InR, List.length_map]; omega) ?_ | refine i_sub rfl rfl (by simp only [InR, List.length_map]; omega) ?_ | refine i_ixm rfl rfl (by assumption) ?_ | refine i_iai rfl rfl (by omega) (by assumption) rfl ?_ | refine i_iam rfl rfl (by assumption) rfl ?_ | refine i_tk rfl rfl (by omega) ?_ | refine i_stb rfl ?_ | refine i_alloc rfl ?_ | refine i_box rfl rfl ?_ | refine i_nv rfl ?_ | refine c_node ?_ ?_ | refine i_g rfl (fun h => ?_) (fun h => ?_) | refine c_cond rfl (fun h => ?_) (fun h => ?_))
      all_goals first
        | exact e_ret ⟨rfl, _, rfl, rfl⟩
        | (exfalso; clear hv hr hw ih; simp at *; omega)
end Hm
end

section
/- Contracts: the parts of a plan; minimal plans. -/
namespace Hm
open Go
set_option maxRecDepth 100000
set_option maxHeartbeats 4000000
set_option linter.unusedSimpArgs false
set_option linter.unusedVariables false
theorem shl_ok (n : Nat) (h : n ≤ 12) : IntKind.i64.wrap ((1 : Int) * 2 ^ (min ((n : Int).toNat) IntKind.i64.bits)) = ((2 ^ n : Nat) : Int) := by
  have : n = 0 ∨ n = 1 ∨ n = 2 ∨ n = 3 ∨ n = 4 ∨ n = 5 ∨ n = 6 ∨ n = 7 ∨ n = 8 ∨ n = 9 ∨ n = 10 ∨ n = 11 ∨ n = 12 := by omega
  rcases this with rfl | rfl | rfl | rfl | rfl | rfl | rfl | rfl | rfl | rfl | rfl | rfl | rfl <;> rfl
theorem shr_ok (b k : Nat) (h : k ≤ 12) : Int.fdiv (b : Int) (2 ^ (min ((k : Int).toNat) IntKind.i64.bits)) = ((b / 2 ^ k : Nat) : Int) := by
  have e : min ((k : Int).toNat) IntKind.i64.bits = k := by
    show min ((k : Int).toNat) 64 = k
    omega
  rw [e, Int.fdiv_eq_ediv_of_nonneg _ (Int.le_of_lt (Int.pow_pos (by decide)))]
  norm_cast
theorem and_ok (m : Nat) (h : m < 1152921504606846976) : IntKind.i64.wrap (BitVec.ofInt IntKind.i64.bits (m : Int) &&& BitVec.ofInt IntKind.i64.bits 1).toNat = ((m % 2 : Nat) : Int) := by
  have h1 : (BitVec.ofInt IntKind.i64.bits (m : Int) &&& BitVec.ofInt IntKind.i64.bits 1).toNat = m % 2 := by
    show (BitVec.ofInt 64 (m : Int) &&& BitVec.ofInt 64 1).toNat = _
    rw [BitVec.toNat_and, BitVec.toNat_ofInt, BitVec.toNat_ofInt, show ((m : Int) % ((2 ^ 64 : Nat) : Int)).toNat = m from by omega, show ((1 : Int) % ((2 ^ 64 : Nat) : Int)).toNat = 1 from by decide, Nat.and_one_is_mod]
  rw [h1]
  have : m % 2 = 0 ∨ m % 2 = 1 := by omega
  rcases this with e | e <;> rw [e] <;> rfl
theorem pow12 {n : Nat} (h : n ≤ 12) : 1 ≤ 2 ^ n ∧ 2 ^ n ≤ 4096 := ⟨Nat.one_le_two_pow, Nat.le_trans (Nat.pow_le_pow_right (by decide) h) (by decide)⟩
def c_plans_parts : Cmd :=
  (.seq
   (.ops [
   .op (some 1) none (.box 2432065 1 (.t 0)),
   .op (some 2) none (.mov (.c (.nilfn)))])
   (.cut
   (.seq
   (.ops [
   .op (some 3) none (.mkfn 50 [.t 1]),
   .op (some 2) none (.mov (.t 3))])
   .ret)))
def r_plans_parts : List RVar := [.tmp 2]
def n_plans_parts : Nat := 4
theorem k_plans_parts : chkFn Go.Proofs.Try.prog 38 n_plans_parts r_plans_parts c_plans_parts = true := by kernel_rfl
theorem f_plans_parts (plan : List Int) : Fc Go.Proofs.Try.prog 38 [.sl .p (plan.map i64V)] (.fn 50 [.cptr .p (.sl .p (plan.map i64V)) 0]) := by
  refine Fn.step mixed k_plans_parts ?_
  repeat' (first | refine i_len rfl ?_ | refine i_s rfl ?_ | refine i_lenm rfl rfl rfl ?_ | refine c_seq ?_ | refine c_cut0 ?_ | refine c_ops ?_ | refine i_nil ?_ | refine e_seq ?_ | refine e_block ?_ | refine c_block ?_ | refine c_skip ?_ | refine c_ret ?_ | refine c_exit ?_ | refine e_exit rfl ?_ | refine i_s0 rfl ?_ | refine c_leaf ?_ | refine i_gt rfl ?_ | refine i_gf rfl ?_ | refine i_gd rfl ?_ | refine c_t rfl ?_ | refine c_f rfl ?_ | refine i_conv rfl (by simp only [InR, List.length_map]; omega) ?_ | refine i_add rfl rfl (by simp only [InR, List.length_map]; omega) ?_ | refine i_sub rfl rfl (by simp only [InR, List.length_map]; omega) ?_ | refine i_ixm rfl rfl (by assumption) ?_ | refine i_iai rfl rfl (by omega) (by assumption) rfl ?_ | refine i_iam rfl rfl (by assumption) rfl ?_ | refine i_tk rfl rfl (by omega) ?_ | refine i_stb rfl ?_ | refine i_alloc rfl ?_ | refine i_box rfl rfl ?_ | refine i_nv rfl ?_ | refine c_node ?_ ?_ | refine i_g rfl (fun h => ?_) (fun h => ?_) | refine c_cond rfl (fun h => ?_) (fun h => ?_))
  exact e_ret ⟨rfl, _, rfl, rfl⟩
def c_plans_parts_1 : Cmd :=
  (.seq
   (.ops [
   .op (some 7) none (.load false 1 (.t 1)),
   .op (some 8) none (.len false (.t 7)),
   .op (some 9) none (.bin .shl false [] (.c (.int .i64 (1))) (.t 8)),
   .op (some 10) none (.bin .sub false [] (.t 9) (.c (.int .i64 (1)))),
   .op (some 11) none (.mov (.c (.int .i64 (0))))])
   (.cut
   (.block 0
   (.loop
   (.seq
   (.ops [
   .op (some 12) none (.bin .lss false [] (.t 11) (.t 10))])
   (.cut
   (.seq
   (.cond (.t 12)
   .skip
   (.exit 0))
   (.cut
   (.seq
   (.block 1
   (.seq
   (.ops [
   .op (some 13) none (.mov (.t 11)),
   .op (some 3) none (.mov (.t 13))])
   (.cut
   (.seq
   (.ops [
   .op (some 4) none (.newVec 3200257)])
   (.cut
   (.seq
   (.seq
   (.ops [
   .op (some 14) none (.load false 1 (.t 1)),
   .op (some 15) none (.len false (.t 14)),
   .op (some 16) none (.mov (.c (.int .i64 (0))))])
   (.cut
   (.block 2
   (.loop
   (.seq
   (.ops [
   .op (some 17) none (.bin .lss false [] (.t 16) (.t 15))])
   (.cut
   (.seq
   (.cond (.t 17)
   .skip
   (.exit 2))
   (.cut
   (.seq
   (.block 3
   (.seq
   (.ops [
   .op (some 18) none (.mov (.t 16)),
   .op (some 19) none (.iaddr 1 (.t 14) (.t 16)),
   .op (some 20) none (.load false 1 (.t 19)),
   .op (some 5) none (.mov (.t 18)),
   .op (some 6) none (.mov (.t 20))])
   (.cut
   (.seq
   (.ops [
   .op (some 21) none (.mov (.t 3)),
   .op (some 22) none (.mov (.t 5)),
   .op (some 23) none (.bin .shr false [] (.t 21) (.t 22)),
   .op (some 24) none (.bin .and false [] (.t 23) (.c (.int .i64 (1)))),
   .op (some 25) none (.bin .eql false [.i] (.t 24) (.c (.int .i64 (1))))])
   (.cut
   (.cond (.t 25)
   (.ops [
   .op (some 26) none (.mov (.t 4)),
   .op (some 27) none (.mov (.t 6)),
   .op (some 28) none (.bsl 1 [.t 27]),
   .op (some 29) none (.append 1 8 (.t 26) (.t 28)),
   .op (some 4) none (.mov (.t 29))])
   .skip))))))
   (.cut
   (.ops [
   .op (some 30) none (.bin .add false [] (.t 16) (.c (.int .i64 (1)))),
   .op (some 16) none (.mov (.t 30))])))))))))))
   (.seq (.frz 4) (.cut
   (.seq
   (.ops [
   .op (some 31) none (.mov (.t 0)),
   .op (some 32) none (.mov (.t 4)),
   .op (some 33) none (.call .y (.t 31) [.t 32]),
   .op (some 34) none (.not (.t 33))])
   (.cut
   (.cond (.t 34)
   .ret
   .skip)))))))))))
   (.cut
   (.ops [
   .op (some 35) none (.bin .add false [] (.t 11) (.c (.int .i64 (1)))),
   .op (some 11) none (.mov (.t 35))])))))))))))
def r_plans_parts_1 : List RVar := []
def n_plans_parts_1 : Nat := 36
theorem k_plans_parts_1 : chkFn Go.Proofs.Try.prog 50 n_plans_parts_1 r_plans_parts_1 c_plans_parts_1 = true := by kernel_rfl
theorem ct_parts_1 {G : Type} {H : HT G} (plan : List Int) (h12 : plan.length ≤ 12) (g0 : G) (K : G → Prop) (hy0 : YL H ((List.range (2 ^ plan.length - 1)).map fun b => [ssV (partK plan b plan.length)]) g0 K) :
    Cc Go.Proofs.Try.prog H 50 [.rnd, .cptr .p (.sl .p (plan.map i64V)) 0] [] (stOf []) g0 fun _ σ' g' => σ' = stOf [] ∧ K g' := by
  have hp2 := pow12 h12
  have hsl := shl_ok plan.length h12
  generalize hN : 2 ^ plan.length = N at *
  refine CT.step _ mixed k_plans_parts_1 (fun nm hnm => stOf_mem _ nm hnm) fun hM => ?_
  repeat (first | refine i_len rfl ?_ | refine i_s rfl ?_ | refine i_lenm rfl rfl rfl ?_ | refine c_seq ?_ | refine c_cut0 ?_ | refine c_ops ?_ | refine i_nil ?_ | refine e_seq ?_ | refine e_block ?_ | refine c_block ?_ | refine c_skip ?_ | refine c_ret ?_ | refine c_exit ?_ | refine e_exit rfl ?_ | refine i_s0 rfl ?_ | refine c_leaf ?_ | refine i_gt rfl ?_ | refine i_gf rfl ?_ | refine i_gd rfl ?_ | refine c_t rfl ?_ | refine c_f rfl ?_ | refine i_conv rfl (by simp only [InR, List.length_map]; omega) ?_ | refine i_add rfl rfl (by simp only [InR, List.length_map]; omega) ?_ | refine i_sub rfl rfl (by simp only [InR, List.length_map]; omega) ?_ | refine i_ixm rfl rfl (by assumption) ?_ | refine i_iai rfl rfl (by omega) (by assumption) rfl ?_ | refine i_iam rfl rfl (by assumption) rfl ?_ | refine i_tk rfl rfl (by omega) ?_ | refine i_stb rfl ?_ | refine i_alloc rfl ?_ | refine i_box rfl rfl ?_ | refine i_nv rfl ?_)
  refine i_shl (q := (N : Int)) rfl rfl (by omega) hsl ?_
  repeat (first | refine i_len rfl ?_ | refine i_s rfl ?_ | refine i_lenm rfl rfl rfl ?_ | refine c_seq ?_ | refine c_cut0 ?_ | refine c_ops ?_ | refine i_nil ?_ | refine e_seq ?_ | refine e_block ?_ | refine c_block ?_ | refine c_skip ?_ | refine c_ret ?_ | refine c_exit ?_ | refine e_exit rfl ?_ | refine i_s0 rfl ?_ | refine c_leaf ?_ | refine i_gt rfl ?_ | refine i_gf rfl ?_ | refine i_gd rfl ?_ | refine c_t rfl ?_ | refine c_f rfl ?_ | refine i_conv rfl (by simp only [InR, List.length_map]; omega) ?_ | refine i_add rfl rfl (by simp only [InR, List.length_map]; omega) ?_ | refine i_sub rfl rfl (by simp only [InR, List.length_map]; omega) ?_ | refine i_ixm rfl rfl (by assumption) ?_ | refine i_iai rfl rfl (by omega) (by assumption) rfl ?_ | refine i_iam rfl rfl (by assumption) rfl ?_ | refine i_tk rfl rfl (by omega) ?_ | refine i_stb rfl ?_ | refine i_alloc rfl ?_ | refine i_box rfl rfl ?_ | refine i_nv rfl ?_)
  refine c_loop (ι := Nat × G) (fun i => [(0, .rnd), (1, .cptr .p (.sl .p (plan.map i64V)) 0), (10, .int .i64 ((N : Int) - 1)), (11, .int .i64 i.1)]) (fun i => []) (fun i => i.2)
    (fun i => i.1 ≤ N - 1 ∧ YL H (((List.range (N - 1)).drop i.1).map fun b => [ssV (partK plan b plan.length)]) i.2 K) (fun i => N - i.1) (0, g0) ⟨Nat.zero_le _, hy0⟩ ⟨by repeat (first | exact trivial | refine ⟨rfl, ?_⟩), by repeat (first | exact trivial | refine ⟨rfl, ?_⟩), rfl⟩ rfl fun i hi => ?_
  obtain ⟨b, g⟩ := i
  obtain ⟨h1, hy⟩ := hi
  simp only at h1 hy
  clear hy0 hsl
  repeat (first | refine i_len rfl ?_ | refine i_s rfl ?_ | refine i_lenm rfl rfl rfl ?_ | refine c_seq ?_ | refine c_cut0 ?_ | refine c_ops ?_ | refine i_nil ?_ | refine e_seq ?_ | refine e_block ?_ | refine c_block ?_ | refine c_skip ?_ | refine c_ret ?_ | refine c_exit ?_ | refine e_exit rfl ?_ | refine i_s0 rfl ?_ | refine c_leaf ?_ | refine i_gt rfl ?_ | refine i_gf rfl ?_ | refine i_gd rfl ?_ | refine c_t rfl ?_ | refine c_f rfl ?_ | refine i_conv rfl (by simp only [InR, List.length_map]; omega) ?_ | refine i_add rfl rfl (by simp only [InR, List.length_map]; omega) ?_ | refine i_sub rfl rfl (by simp only [InR, List.length_map]; omega) ?_ | refine i_ixm rfl rfl (by assumption) ?_ | refine i_iai rfl rfl (by omega) (by assumption) rfl ?_ | refine i_iam rfl rfl (by assumption) rfl ?_ | refine i_tk rfl rfl (by omega) ?_ | refine i_stb rfl ?_ | refine i_alloc rfl ?_ | refine i_box rfl rfl ?_ | refine i_nv rfl ?_)
  refine c_cond rfl (fun h => ?_) (fun h => ?_)
  · have hlt : b < N - 1 := by have : (b : Int) < (N : Int) - 1 := by simpa using h
                               omega
    have ed : (List.range (N - 1)).drop b = b :: (List.range (N - 1)).drop (b + 1) := by
      have := List.drop_eq_getElem_cons (l := List.range (N - 1)) (i := b) (by simpa using hlt)
      rw [this]; simp
    rw [ed] at hy
    clear h
    repeat (first | refine i_len rfl ?_ | refine i_s rfl ?_ | refine i_lenm rfl rfl rfl ?_ | refine c_seq ?_ | refine c_cut0 ?_ | refine c_ops ?_ | refine i_nil ?_ | refine e_seq ?_ | refine e_block ?_ | refine c_block ?_ | refine c_skip ?_ | refine c_ret ?_ | refine c_exit ?_ | refine e_exit rfl ?_ | refine i_s0 rfl ?_ | refine c_leaf ?_ | refine i_gt rfl ?_ | refine i_gf rfl ?_ | refine i_gd rfl ?_ | refine c_t rfl ?_ | refine c_f rfl ?_ | refine i_conv rfl (by simp only [InR, List.length_map]; omega) ?_ | refine i_add rfl rfl (by simp only [InR, List.length_map]; omega) ?_ | refine i_sub rfl rfl (by simp only [InR, List.length_map]; omega) ?_ | refine i_ixm rfl rfl (by assumption) ?_ | refine i_iai rfl rfl (by omega) (by assumption) rfl ?_ | refine i_iam rfl rfl (by assumption) rfl ?_ | refine i_tk rfl rfl (by omega) ?_ | refine i_stb rfl ?_ | refine i_alloc rfl ?_ | refine i_box rfl rfl ?_ | refine i_nv rfl ?_)
    refine c_for plan.length (fun k => [(0, .rnd), (1, .cptr .p (.sl .p (plan.map i64V)) 0), (3, .int .i64 b), (4, .sl (.own 3200257) ((partK plan b k).map i64V)), (10, .int .i64 ((N : Int) - 1)), (11, .int .i64 b), (14, .sl .p (plan.map i64V)), (15, .int .i64 plan.length), (16, .int .i64 k)])
      (fun k => [(3200257, .vec (partK plan b k).length)]) (fun _ => True) trivial ⟨by repeat (first | exact trivial | refine ⟨rfl, ?_⟩), by repeat (first | exact trivial | refine ⟨rfl, ?_⟩), rfl⟩ fun k hk _ => ?_
    have hpl := partK_len plan b k
    repeat (first | refine i_len rfl ?_ | refine i_s rfl ?_ | refine i_lenm rfl rfl rfl ?_ | refine c_seq ?_ | refine c_cut0 ?_ | refine c_ops ?_ | refine i_nil ?_ | refine e_seq ?_ | refine e_block ?_ | refine c_block ?_ | refine c_skip ?_ | refine c_ret ?_ | refine c_exit ?_ | refine e_exit rfl ?_ | refine i_s0 rfl ?_ | refine c_leaf ?_ | refine i_gt rfl ?_ | refine i_gf rfl ?_ | refine i_gd rfl ?_ | refine c_t rfl ?_ | refine c_f rfl ?_ | refine i_conv rfl (by simp only [InR, List.length_map]; omega) ?_ | refine i_add rfl rfl (by simp only [InR, List.length_map]; omega) ?_ | refine i_sub rfl rfl (by simp only [InR, List.length_map]; omega) ?_ | refine i_ixm rfl rfl (by assumption) ?_ | refine i_iai rfl rfl (by omega) (by assumption) rfl ?_ | refine i_iam rfl rfl (by assumption) rfl ?_ | refine i_tk rfl rfl (by omega) ?_ | refine i_stb rfl ?_ | refine i_alloc rfl ?_ | refine i_box rfl rfl ?_ | refine i_nv rfl ?_)
    refine c_cond rfl (fun h => ?_) (fun h => ?_)
    · have hkl : k < plan.length := by simpa using h
      obtain ⟨x, hx⟩ := get_some hkl
      have ep : partK plan b (k + 1) = partK plan b k ++ (if b / 2 ^ k % 2 = 1 then [x] else []) := by rw [partK, hx]
      have hsr := shr_ok b k (by omega)
      have hdl : b / 2 ^ k ≤ b := Nat.div_le_self _ _
      have han := and_ok (b / 2 ^ k) (by omega)
      clear h hy
      generalize b / 2 ^ k = q at *
      repeat (first | refine i_len rfl ?_ | refine i_s rfl ?_ | refine i_lenm rfl rfl rfl ?_ | refine c_seq ?_ | refine c_cut0 ?_ | refine c_ops ?_ | refine i_nil ?_ | refine e_seq ?_ | refine e_block ?_ | refine c_block ?_ | refine c_skip ?_ | refine c_ret ?_ | refine c_exit ?_ | refine e_exit rfl ?_ | refine i_s0 rfl ?_ | refine c_leaf ?_ | refine i_gt rfl ?_ | refine i_gf rfl ?_ | refine i_gd rfl ?_ | refine c_t rfl ?_ | refine c_f rfl ?_ | refine i_conv rfl (by simp only [InR, List.length_map]; omega) ?_ | refine i_add rfl rfl (by simp only [InR, List.length_map]; omega) ?_ | refine i_sub rfl rfl (by simp only [InR, List.length_map]; omega) ?_ | refine i_ixm rfl rfl (by assumption) ?_ | refine i_iai rfl rfl (by omega) (by assumption) rfl ?_ | refine i_iam rfl rfl (by assumption) rfl ?_ | refine i_tk rfl rfl (by omega) ?_ | refine i_stb rfl ?_ | refine i_alloc rfl ?_ | refine i_box rfl rfl ?_ | refine i_nv rfl ?_)
      refine i_shr (q := (q : Int)) rfl rfl (by omega) hsr ?_
      refine i_and (q := ((q % 2 : Nat) : Int)) rfl rfl rfl han ?_
      repeat (first | refine i_len rfl ?_ | refine i_s rfl ?_ | refine i_lenm rfl rfl rfl ?_ | refine c_seq ?_ | refine c_cut0 ?_ | refine c_ops ?_ | refine i_nil ?_ | refine e_seq ?_ | refine e_block ?_ | refine c_block ?_ | refine c_skip ?_ | refine c_ret ?_ | refine c_exit ?_ | refine e_exit rfl ?_ | refine i_s0 rfl ?_ | refine c_leaf ?_ | refine i_gt rfl ?_ | refine i_gf rfl ?_ | refine i_gd rfl ?_ | refine c_t rfl ?_ | refine c_f rfl ?_ | refine i_conv rfl (by simp only [InR, List.length_map]; omega) ?_ | refine i_add rfl rfl (by simp only [InR, List.length_map]; omega) ?_ | refine i_sub rfl rfl (by simp only [InR, List.length_map]; omega) ?_ | refine i_ixm rfl rfl (by assumption) ?_ | refine i_iai rfl rfl (by omega) (by assumption) rfl ?_ | refine i_iam rfl rfl (by assumption) rfl ?_ | refine i_tk rfl rfl (by omega) ?_ | refine i_stb rfl ?_ | refine i_alloc rfl ?_ | refine i_box rfl rfl ?_ | refine i_nv rfl ?_)
      refine c_cond rfl (fun h => ?_) (fun h => ?_)
      · have hq : q % 2 = 1 := by have : ((q % 2 : Nat) : Int) = 1 := by simpa using h
                                  omega
        rw [if_pos hq] at ep
        repeat (first | refine i_len rfl ?_ | refine i_s rfl ?_ | refine i_lenm rfl rfl rfl ?_ | refine c_seq ?_ | refine c_cut0 ?_ | refine c_ops ?_ | refine i_nil ?_ | refine e_seq ?_ | refine e_block ?_ | refine c_block ?_ | refine c_skip ?_ | refine c_ret ?_ | refine c_exit ?_ | refine e_exit rfl ?_ | refine i_s0 rfl ?_ | refine c_leaf ?_ | refine i_gt rfl ?_ | refine i_gf rfl ?_ | refine i_gd rfl ?_ | refine c_t rfl ?_ | refine c_f rfl ?_ | refine i_conv rfl (by simp only [InR, List.length_map]; omega) ?_ | refine i_add rfl rfl (by simp only [InR, List.length_map]; omega) ?_ | refine i_sub rfl rfl (by simp only [InR, List.length_map]; omega) ?_ | refine i_ixm rfl rfl (by assumption) ?_ | refine i_iai rfl rfl (by omega) (by assumption) rfl ?_ | refine i_iam rfl rfl (by assumption) rfl ?_ | refine i_tk rfl rfl (by omega) ?_ | refine i_stb rfl ?_ | refine i_alloc rfl ?_ | refine i_box rfl rfl ?_ | refine i_nv rfl ?_)
        refine i_appM rfl rfl rfl rfl rfl (by omega) (by omega) ?_
        repeat (first | refine i_len rfl ?_ | refine i_s rfl ?_ | refine i_lenm rfl rfl rfl ?_ | refine c_seq ?_ | refine c_cut0 ?_ | refine c_ops ?_ | refine i_nil ?_ | refine e_seq ?_ | refine e_block ?_ | refine c_block ?_ | refine c_skip ?_ | refine c_ret ?_ | refine c_exit ?_ | refine e_exit rfl ?_ | refine i_s0 rfl ?_ | refine c_leaf ?_ | refine i_gt rfl ?_ | refine i_gf rfl ?_ | refine i_gd rfl ?_ | refine c_t rfl ?_ | refine c_f rfl ?_ | refine i_conv rfl (by simp only [InR, List.length_map]; omega) ?_ | refine i_add rfl rfl (by simp only [InR, List.length_map]; omega) ?_ | refine i_sub rfl rfl (by simp only [InR, List.length_map]; omega) ?_ | refine i_ixm rfl rfl (by assumption) ?_ | refine i_iai rfl rfl (by omega) (by assumption) rfl ?_ | refine i_iam rfl rfl (by assumption) rfl ?_ | refine i_tk rfl rfl (by omega) ?_ | refine i_stb rfl ?_ | refine i_alloc rfl ?_ | refine i_box rfl rfl ?_ | refine i_nv rfl ?_)
        refine e_for hkl trivial ⟨⟨rfl, rfl, rfl, ?_, rfl, rfl, rfl, rfl, rfl, trivial⟩, ⟨?_, trivial⟩, rfl⟩
        · rw [ep]; rfl
        · rw [ep]; simp; rfl
      · have hq : ¬ q % 2 = 1 := fun e => by rw [e] at h; cases h
        rw [if_neg hq] at ep
        repeat (first | refine i_len rfl ?_ | refine i_s rfl ?_ | refine i_lenm rfl rfl rfl ?_ | refine c_seq ?_ | refine c_cut0 ?_ | refine c_ops ?_ | refine i_nil ?_ | refine e_seq ?_ | refine e_block ?_ | refine c_block ?_ | refine c_skip ?_ | refine c_ret ?_ | refine c_exit ?_ | refine e_exit rfl ?_ | refine i_s0 rfl ?_ | refine c_leaf ?_ | refine i_gt rfl ?_ | refine i_gf rfl ?_ | refine i_gd rfl ?_ | refine c_t rfl ?_ | refine c_f rfl ?_ | refine i_conv rfl (by simp only [InR, List.length_map]; omega) ?_ | refine i_add rfl rfl (by simp only [InR, List.length_map]; omega) ?_ | refine i_sub rfl rfl (by simp only [InR, List.length_map]; omega) ?_ | refine i_ixm rfl rfl (by assumption) ?_ | refine i_iai rfl rfl (by omega) (by assumption) rfl ?_ | refine i_iam rfl rfl (by assumption) rfl ?_ | refine i_tk rfl rfl (by omega) ?_ | refine i_stb rfl ?_ | refine i_alloc rfl ?_ | refine i_box rfl rfl ?_ | refine i_nv rfl ?_)
        refine e_for hkl trivial ⟨⟨rfl, rfl, rfl, ?_, rfl, rfl, rfl, rfl, rfl, trivial⟩, ⟨?_, trivial⟩, rfl⟩
        · rw [ep]; simp; rfl
        · rw [ep]; simp; rfl
    · have hge : k = plan.length := by have : ¬ k < plan.length := by simpa using h
                                       omega
      subst hge
      clear h
      repeat (first | refine i_len rfl ?_ | refine i_s rfl ?_ | refine i_lenm rfl rfl rfl ?_ | refine c_seq ?_ | refine c_cut0 ?_ | refine c_ops ?_ | refine i_nil ?_ | refine e_seq ?_ | refine e_block ?_ | refine c_block ?_ | refine c_skip ?_ | refine c_ret ?_ | refine c_exit ?_ | refine e_exit rfl ?_ | refine i_s0 rfl ?_ | refine c_leaf ?_ | refine i_gt rfl ?_ | refine i_gf rfl ?_ | refine i_gd rfl ?_ | refine c_t rfl ?_ | refine c_f rfl ?_ | refine i_conv rfl (by simp only [InR, List.length_map]; omega) ?_ | refine i_add rfl rfl (by simp only [InR, List.length_map]; omega) ?_ | refine i_sub rfl rfl (by simp only [InR, List.length_map]; omega) ?_ | refine i_ixm rfl rfl (by assumption) ?_ | refine i_iai rfl rfl (by omega) (by assumption) rfl ?_ | refine i_iam rfl rfl (by assumption) rfl ?_ | refine i_tk rfl rfl (by omega) ?_ | refine i_stb rfl ?_ | refine i_alloc rfl ?_ | refine i_box rfl rfl ?_ | refine i_nv rfl ?_)
      refine c_frzv rfl rfl ?_
      repeat (first | refine i_len rfl ?_ | refine i_s rfl ?_ | refine i_lenm rfl rfl rfl ?_ | refine c_seq ?_ | refine c_cut0 ?_ | refine c_ops ?_ | refine i_nil ?_ | refine e_seq ?_ | refine e_block ?_ | refine c_block ?_ | refine c_skip ?_ | refine c_ret ?_ | refine c_exit ?_ | refine e_exit rfl ?_ | refine i_s0 rfl ?_ | refine c_leaf ?_ | refine i_gt rfl ?_ | refine i_gf rfl ?_ | refine i_gd rfl ?_ | refine c_t rfl ?_ | refine c_f rfl ?_ | refine i_conv rfl (by simp only [InR, List.length_map]; omega) ?_ | refine i_add rfl rfl (by simp only [InR, List.length_map]; omega) ?_ | refine i_sub rfl rfl (by simp only [InR, List.length_map]; omega) ?_ | refine i_ixm rfl rfl (by assumption) ?_ | refine i_iai rfl rfl (by omega) (by assumption) rfl ?_ | refine i_iam rfl rfl (by assumption) rfl ?_ | refine i_tk rfl rfl (by omega) ?_ | refine i_stb rfl ?_ | refine i_alloc rfl ?_ | refine i_box rfl rfl ?_ | refine i_nv rfl ?_)
      refine i_y hM rfl rfl rfl (hM _ _ _ _ (fun u g' hu => ?_) hy)
      rcases hu with ⟨rfl, hu⟩ | ⟨rfl, hu⟩
      · repeat (first | refine i_len rfl ?_ | refine i_s rfl ?_ | refine i_lenm rfl rfl rfl ?_ | refine c_seq ?_ | refine c_cut0 ?_ | refine c_ops ?_ | refine i_nil ?_ | refine e_seq ?_ | refine e_block ?_ | refine c_block ?_ | refine c_skip ?_ | refine c_ret ?_ | refine c_exit ?_ | refine e_exit rfl ?_ | refine i_s0 rfl ?_ | refine c_leaf ?_ | refine i_gt rfl ?_ | refine i_gf rfl ?_ | refine i_gd rfl ?_ | refine c_t rfl ?_ | refine c_f rfl ?_ | refine i_conv rfl (by simp only [InR, List.length_map]; omega) ?_ | refine i_add rfl rfl (by simp only [InR, List.length_map]; omega) ?_ | refine i_sub rfl rfl (by simp only [InR, List.length_map]; omega) ?_ | refine i_ixm rfl rfl (by assumption) ?_ | refine i_iai rfl rfl (by omega) (by assumption) rfl ?_ | refine i_iam rfl rfl (by assumption) rfl ?_ | refine i_tk rfl rfl (by omega) ?_ | refine i_stb rfl ?_ | refine i_alloc rfl ?_ | refine i_box rfl rfl ?_ | refine i_nv rfl ?_)
        exact e_loop ⟨(b + 1, g'), ⟨by simp only; omega, hu⟩, ⟨by repeat (first | exact trivial | refine ⟨rfl, ?_⟩), by repeat (first | exact trivial | refine ⟨rfl, ?_⟩), rfl⟩, rfl, by simp only; omega⟩
      · repeat (first | refine i_len rfl ?_ | refine i_s rfl ?_ | refine i_lenm rfl rfl rfl ?_ | refine c_seq ?_ | refine c_cut0 ?_ | refine c_ops ?_ | refine i_nil ?_ | refine e_seq ?_ | refine e_block ?_ | refine c_block ?_ | refine c_skip ?_ | refine c_ret ?_ | refine c_exit ?_ | refine e_exit rfl ?_ | refine i_s0 rfl ?_ | refine c_leaf ?_ | refine i_gt rfl ?_ | refine i_gf rfl ?_ | refine i_gd rfl ?_ | refine c_t rfl ?_ | refine c_f rfl ?_ | refine i_conv rfl (by simp only [InR, List.length_map]; omega) ?_ | refine i_add rfl rfl (by simp only [InR, List.length_map]; omega) ?_ | refine i_sub rfl rfl (by simp only [InR, List.length_map]; omega) ?_ | refine i_ixm rfl rfl (by assumption) ?_ | refine i_iai rfl rfl (by omega) (by assumption) rfl ?_ | refine i_iam rfl rfl (by assumption) rfl ?_ | refine i_tk rfl rfl (by omega) ?_ | refine i_stb rfl ?_ | refine i_alloc rfl ?_ | refine i_box rfl rfl ?_ | refine i_nv rfl ?_)
        exact e_ret ⟨rfl, _, rfl, rfl, rfl, restr_stOf _ _, hu⟩
  · have hge : b = N - 1 := by have : ¬ (b : Int) < (N : Int) - 1 := by simpa using h
                               omega
    subst hge
    rw [List.drop_of_length_le (by simp)] at hy
    repeat (first | refine i_len rfl ?_ | refine i_s rfl ?_ | refine i_lenm rfl rfl rfl ?_ | refine c_seq ?_ | refine c_cut0 ?_ | refine c_ops ?_ | refine i_nil ?_ | refine e_seq ?_ | refine e_block ?_ | refine c_block ?_ | refine c_skip ?_ | refine c_ret ?_ | refine c_exit ?_ | refine e_exit rfl ?_ | refine i_s0 rfl ?_ | refine c_leaf ?_ | refine i_gt rfl ?_ | refine i_gf rfl ?_ | refine i_gd rfl ?_ | refine c_t rfl ?_ | refine c_f rfl ?_ | refine i_conv rfl (by simp only [InR, List.length_map]; omega) ?_ | refine i_add rfl rfl (by simp only [InR, List.length_map]; omega) ?_ | refine i_sub rfl rfl (by simp only [InR, List.length_map]; omega) ?_ | refine i_ixm rfl rfl (by assumption) ?_ | refine i_iai rfl rfl (by omega) (by assumption) rfl ?_ | refine i_iam rfl rfl (by assumption) rfl ?_ | refine i_tk rfl rfl (by omega) ?_ | refine i_stb rfl ?_ | refine i_alloc rfl ?_ | refine i_box rfl rfl ?_ | refine i_nv rfl ?_)
    exact e_end ⟨rfl, _, rfl, rfl, rfl, restr_stOf _ _, hy⟩
end Hm
end

section
/- Contracts: minimal plans; parts of plans. -/
namespace Hm
open Go
set_option maxRecDepth 100000
set_option maxHeartbeats 4000000
set_option linter.unusedSimpArgs false
set_option linter.unusedVariables false
def minF (t : STask) (plan : List Int) : Flt := if solF t plan = okF then (if plan.length > 12 then ⟨10, -8⟩ else okF) else solF t plan
theorem minF_ok {t : STask} {plan : List Int} (h : minF t plan = okF) : solF t plan = okF ∧ plan.length ≤ 12 := by
  unfold minF at h
  split at h
  · rename_i h1
    split at h
    · cases h
    · exact ⟨h1, by omega⟩
  · rename_i h1; exact absurd h h1
theorem minF_code (t : STask) (plan : List Int) : (minF t plan).code = 0 ↔ minF t plan = okF := by
  unfold minF
  split
  · split <;> simp [okF]
  · exact solF_code t plan
def c_plans_Minimal : Cmd :=
  (.seq
   (.ops [
   .op (some 2) none (.box 1088132 4 (.t 0)),
   .op (some 4) none (.alloc 1088257 (.bool false)),
   .op (some 5) none (.alloc 1088322 (.agg [.int .i64 (0), .int .i64 (0)]))])
   (.cut
   (.seq
   (.seq
   (.ops [
   .op (some 8) none (.load true 4 (.t 2)),
   .op (some 9) none (.mov (.t 1)),
   .op (some 10) none (.call .f (.c (.fn 33 [])) [.t 8, .t 9]),
   .op (some 6) none (.alloc 1088386 (.agg [.int .i64 (0), .int .i64 (0)])),
   .op none none (.store 2 (.t 6) (.t 10))])
   (.cut
   (.seq
   (.ops [
   .op (some 11) none (.load true 2 (.t 6)),
   .op (some 12) none (.build [.int .i64 (0), .int .i64 (0)] []),
   .op (some 13) none (.bin .neq true [.i, .i] (.t 11) (.t 12))])
   (.cut
   (.cond (.t 13)
   (.seq
   (.opsT (.node 0 1 (.leaf [0, 1, 2]) (.leaf [1, 0, 2])) [
   .op (some 14) none (.load true 2 (.t 6)),
   .op none none (.store 1 (.t 4) (.c (.bool false))),
   .op none none (.store 2 (.t 5) (.t 14))])
   .ret)
   .skip)))))
   (.cut
   (.seq
   (.seq
   (.ops [
   .op (some 15) none (.mov (.t 1)),
   .op (some 16) none (.len false (.t 15)),
   .op (some 17) none (.bin .gtr false [] (.t 16) (.c (.int .i64 (12))))])
   (.cut
   (.cond (.t 17)
   (.seq
   (.ops [
   .op (some 18) none (.build [.int .i64 (0), .int .i64 (0)] [(0, 1, .c (.int .i64 (10))), (1, 1, .c (.int .i64 (-8)))]),
   .op none none (.store 1 (.t 4) (.c (.bool false))),
   .op none none (.store 2 (.t 5) (.t 18))])
   .ret)
   .skip)))
   (.cut
   (.seq
   (.seq
   (.ops [
   .op (some 19) none (.mov (.t 1)),
   .op (some 20) none (.call .f (.c (.fn 38 [])) [.t 19])])
   (.cut
   (.block 0
   (.rangeF [] (.t 20) [21]
   (.ops [
   .op (some 7) none (.mov (.t 21))])
   (.block 1
   (.seq
   (.ops [
   .op (some 22) none (.load true 4 (.t 2)),
   .op (some 23) none (.faddr 1 (.t 2)),
   .op (some 24) none (.load false 1 (.t 23)),
   .op (some 25) none (.mov (.t 7)),
   .op (some 26) none (.call .f (.c (.fn 36 [])) [.t 22, .t 24, .t 25])])
   (.cut
   (.cond (.t 26)
   (.seq
   (.ops [
   .op (some 27) none (.build [.int .i64 (0), .int .i64 (0)] []),
   .op none none (.store 1 (.t 4) (.c (.bool false))),
   .op none none (.store 2 (.t 5) (.t 27))])
   .ret)
   .skip))))))))
   (.cut
   (.seq
   (.ops [
   .op (some 28) none (.build [.int .i64 (0), .int .i64 (0)] []),
   .op none none (.store 1 (.t 4) (.c (.bool true))),
   .op none none (.store 2 (.t 5) (.t 28))])
   .ret)))))))))
def r_plans_Minimal : List RVar := [.cell false 1 4, .cell true 2 5]
def n_plans_Minimal : Nat := 29
theorem k_plans_Minimal : chkFn Go.Proofs.Try.prog 17 n_plans_Minimal r_plans_Minimal c_plans_Minimal = true := by kernel_rfl
theorem f_plans_Minimal_bad (t : STask) (ho : SkOk t) (plan : List Int) (hl : plan.length ≤ 140737488355328) (hb : minF t plan ≠ okF) : Fc Go.Proofs.Try.prog 17 [skV t, .sl .p (plan.map i64V)] (.tup [.bool false, ftV (minF t plan)]) := by
  have hF := f_plans_solution t ho plan hl
  by_cases hs : solF t plan = okF
  · have h12 : plan.length > 12 := by
      by_cases h : plan.length > 12
      · exact h
      · exact absurd (by unfold minF; rw [if_pos hs, if_neg h]) hb
    have e : minF t plan = ⟨10, -8⟩ := by unfold minF; rw [if_pos hs, if_pos h12]
    rw [e]
    rw [hs] at hF
    refine Fn.step mixed k_plans_Minimal ?_
    repeat' (first | refine i_len rfl ?_ | refine i_s rfl ?_ | refine i_lenm rfl rfl rfl ?_ | refine c_seq ?_ | refine c_cut0 ?_ | refine c_ops ?_ | refine i_nil ?_ | refine e_seq ?_ | refine e_block ?_ | refine c_block ?_ | refine c_skip ?_ | refine c_ret ?_ | refine c_exit ?_ | refine e_exit rfl ?_ | refine i_s0 rfl ?_ | refine c_leaf ?_ | refine i_gt rfl ?_ | refine i_gf rfl ?_ | refine i_gd rfl ?_ | refine c_t rfl ?_ | refine c_f rfl ?_ | refine i_conv rfl (by simp only [InR, List.length_map]; omega) ?_ | refine i_add rfl rfl (by simp only [InR, List.length_map]; omega) ?_ | refine i_sub rfl rfl (by simp only [InR, List.length_map]; omega) ?_ | refine i_ixm rfl rfl (by assumption) ?_ | refine i_iai rfl rfl (by omega) (by assumption) rfl ?_ | refine i_iam rfl rfl (by assumption) rfl ?_ | refine i_tk rfl rfl (by omega) ?_ | refine i_stb rfl ?_ | refine i_alloc rfl ?_ | refine i_box rfl rfl ?_ | refine i_nv rfl ?_ | refine c_node ?_ ?_ | refine i_g rfl (fun h => ?_) (fun h => ?_) | refine c_cond rfl (fun h => ?_) (fun h => ?_) | refine i_f rfl rfl (hF) rfl ?_)
    all_goals first
      | exact e_ret ⟨rfl, _, rfl, rfl⟩
      | (exfalso; clear hF ho; simp at *; omega)
  · have e : minF t plan = solF t plan := by unfold minF; rw [if_neg hs]
    rw [e]
    refine Fn.step mixed k_plans_Minimal ?_
    repeat' (first | refine i_len rfl ?_ | refine i_s rfl ?_ | refine i_lenm rfl rfl rfl ?_ | refine c_seq ?_ | refine c_cut0 ?_ | refine c_ops ?_ | refine i_nil ?_ | refine e_seq ?_ | refine e_block ?_ | refine c_block ?_ | refine c_skip ?_ | refine c_ret ?_ | refine c_exit ?_ | refine e_exit rfl ?_ | refine i_s0 rfl ?_ | refine c_leaf ?_ | refine i_gt rfl ?_ | refine i_gf rfl ?_ | refine i_gd rfl ?_ | refine c_t rfl ?_ | refine c_f rfl ?_ | refine i_conv rfl (by simp only [InR, List.length_map]; omega) ?_ | refine i_add rfl rfl (by simp only [InR, List.length_map]; omega) ?_ | refine i_sub rfl rfl (by simp only [InR, List.length_map]; omega) ?_ | refine i_ixm rfl rfl (by assumption) ?_ | refine i_iai rfl rfl (by omega) (by assumption) rfl ?_ | refine i_iam rfl rfl (by assumption) rfl ?_ | refine i_tk rfl rfl (by omega) ?_ | refine i_stb rfl ?_ | refine i_alloc rfl ?_ | refine i_box rfl rfl ?_ | refine i_nv rfl ?_ | refine c_node ?_ ?_ | refine i_g rfl (fun h => ?_) (fun h => ?_) | refine c_cond rfl (fun h => ?_) (fun h => ?_) | refine i_f rfl rfl (hF) rfl ?_)
    all_goals first
      | exact e_ret ⟨rfl, _, rfl, rfl⟩
      | exact absurd (eq_ok (by assumption)) hs
theorem f_plans_Minimal_ok (t : STask) (ho : SkOk t) (plan : List Int) (hb : minF t plan = okF) : Fc Go.Proofs.Try.prog 17 [skV t, .sl .p (plan.map i64V)] (.tup [.bool (minB t plan), ftV okF]) := by
  obtain ⟨hs, h12⟩ := minF_ok hb
  obtain ⟨hpf, hw⟩ := solF_ok hs
  obtain ⟨hv, h60, hr, _⟩ := plFault_ok hpf
  have hF := f_plans_solution t ho plan (by omega)
  rw [hs] at hF
  have hP := f_plans_parts plan
  have hmb := minB_parts t plan
  refine Fn.step mixed k_plans_Minimal ?_
  repeat (first | refine i_len rfl ?_ | refine i_s rfl ?_ | refine i_lenm rfl rfl rfl ?_ | refine c_seq ?_ | refine c_cut0 ?_ | refine c_ops ?_ | refine i_nil ?_ | refine e_seq ?_ | refine e_block ?_ | refine c_block ?_ | refine c_skip ?_ | refine c_ret ?_ | refine c_exit ?_ | refine e_exit rfl ?_ | refine i_s0 rfl ?_ | refine c_leaf ?_ | refine i_gt rfl ?_ | refine i_gf rfl ?_ | refine i_gd rfl ?_ | refine c_t rfl ?_ | refine c_f rfl ?_ | refine i_conv rfl (by simp only [InR, List.length_map]; omega) ?_ | refine i_add rfl rfl (by simp only [InR, List.length_map]; omega) ?_ | refine i_sub rfl rfl (by simp only [InR, List.length_map]; omega) ?_ | refine i_ixm rfl rfl (by assumption) ?_ | refine i_iai rfl rfl (by omega) (by assumption) rfl ?_ | refine i_iam rfl rfl (by assumption) rfl ?_ | refine i_tk rfl rfl (by omega) ?_ | refine i_stb rfl ?_ | refine i_alloc rfl ?_ | refine i_box rfl rfl ?_ | refine i_nv rfl ?_ | refine i_f rfl rfl (hF) rfl ?_)
  refine c_cond rfl (fun h => ?_) (fun h => ?_)
  · exfalso; have : (plan.length : Int) > 12 := by simpa using h
    omega
  clear h
  repeat (first | refine i_len rfl ?_ | refine i_s rfl ?_ | refine i_lenm rfl rfl rfl ?_ | refine c_seq ?_ | refine c_cut0 ?_ | refine c_ops ?_ | refine i_nil ?_ | refine e_seq ?_ | refine e_block ?_ | refine c_block ?_ | refine c_skip ?_ | refine c_ret ?_ | refine c_exit ?_ | refine e_exit rfl ?_ | refine i_s0 rfl ?_ | refine c_leaf ?_ | refine i_gt rfl ?_ | refine i_gf rfl ?_ | refine i_gd rfl ?_ | refine c_t rfl ?_ | refine c_f rfl ?_ | refine i_conv rfl (by simp only [InR, List.length_map]; omega) ?_ | refine i_add rfl rfl (by simp only [InR, List.length_map]; omega) ?_ | refine i_sub rfl rfl (by simp only [InR, List.length_map]; omega) ?_ | refine i_ixm rfl rfl (by assumption) ?_ | refine i_iai rfl rfl (by omega) (by assumption) rfl ?_ | refine i_iam rfl rfl (by assumption) rfl ?_ | refine i_tk rfl rfl (by omega) ?_ | refine i_stb rfl ?_ | refine i_alloc rfl ?_ | refine i_box rfl rfl ?_ | refine i_nv rfl ?_ | refine i_f rfl rfl (hP) rfl ?_)
  refine c_rangeS [(2, .bptr 1088132 0), (4, .bptr 1088257 0), (5, .bptr 1088322 0)] [(1088132, .box (skV t)), (1088257, .box (.bool false)), (1088322, .box (ftV okF))] [1088132, 1088257, 1088322]
    [] [(1088132, .box (skV t)), (1088257, .box (.bool false)), (1088322, .box (ftV okF))] rfl ⟨by repeat (first | exact trivial | refine ⟨rfl, ?_⟩), by repeat (first | exact trivial | refine ⟨rfl, ?_⟩), rfl⟩ rfl rfl rfl rfl ?_
  refine Cc_mono ?_ (ct_parts_1 plan h12 _
    (fun st => match (List.range (2 ^ plan.length - 1)).find? (fun b => worksB t t.init (partK plan b plan.length)) with
      | some c => st = (stOf [(1088132, .box (skV t)), (1088257, .box (.bool false)), (1088322, .box (ftV okF))], (), some .ret)
      | none => st = (stOf [(1088132, .box (skV t)), (1088257, .box (.bool false)), (1088322, .box (ftV okF))], (), none))
    (YL_find (fun b => worksB t t.init (partK plan b plan.length)) (fun _ => (stOf [(1088132, .box (skV t)), (1088257, .box (.bool false)), (1088322, .box (ftV okF))], (), some .ret)) (RHm noH_mono) (List.range (2 ^ plan.length - 1)) ?_ ?_))
  · rintro _ σ' st ⟨rfl, hst⟩
    cases hfd : (List.range (2 ^ plan.length - 1)).find? (fun b => worksB t t.init (partK plan b plan.length)) with
    | some c =>
      rw [hfd] at hst
      simp only at hst
      subst hst
      have hm : minB t plan = false := by
        rw [hmb, Bool.not_eq_false', List.any_eq_true]
        have h1 := List.mem_of_find?_eq_some hfd
        have h2 := List.find?_some hfd
        exact ⟨c, h1, by simpa using h2⟩
      rw [hm]
      refine ⟨rfl, ?_⟩
      exact e_ret ⟨rfl, _, rfl, rfl⟩
    | none =>
      rw [hfd] at hst
      simp only at hst
      subst hst
      have hm : minB t plan = true := by
        rw [hmb, Bool.not_eq_true', List.any_eq_false]
        intro b hb
        have := List.find?_eq_none.1 hfd b hb
        simpa using this
      rw [hm]
      refine ⟨rfl, ?_⟩
      show WE _ _ _ _ _ .normal _ _ _
      repeat (first | refine i_len rfl ?_ | refine i_s rfl ?_ | refine i_lenm rfl rfl rfl ?_ | refine c_seq ?_ | refine c_cut0 ?_ | refine c_ops ?_ | refine i_nil ?_ | refine e_seq ?_ | refine e_block ?_ | refine c_block ?_ | refine c_skip ?_ | refine c_ret ?_ | refine c_exit ?_ | refine e_exit rfl ?_ | refine i_s0 rfl ?_ | refine c_leaf ?_ | refine i_gt rfl ?_ | refine i_gf rfl ?_ | refine i_gd rfl ?_ | refine c_t rfl ?_ | refine c_f rfl ?_ | refine i_conv rfl (by simp only [InR, List.length_map]; omega) ?_ | refine i_add rfl rfl (by simp only [InR, List.length_map]; omega) ?_ | refine i_sub rfl rfl (by simp only [InR, List.length_map]; omega) ?_ | refine i_ixm rfl rfl (by assumption) ?_ | refine i_iai rfl rfl (by omega) (by assumption) rfl ?_ | refine i_iam rfl rfl (by assumption) rfl ?_ | refine i_tk rfl rfl (by omega) ?_ | refine i_stb rfl ?_ | refine i_alloc rfl ?_ | refine i_box rfl rfl ?_ | refine i_nv rfl ?_)
      exact e_ret ⟨rfl, _, rfl, rfl⟩
  · intro b hbm K hk1 hk2
    have hpl := partK_len plan b plan.length
    have hsub : (partK plan b plan.length).Sublist plan := by rw [partK_R]; exact partR_sub _ _
    have hW := f_strips_Works t hv t.init hv.init (partK plan b plan.length) (by omega) (sub_rng hsub hr)
    refine rh_intro noH_mono rfl ?_
    repeat (first | refine i_len rfl ?_ | refine i_s rfl ?_ | refine i_lenm rfl rfl rfl ?_ | refine c_seq ?_ | refine c_cut0 ?_ | refine c_ops ?_ | refine i_nil ?_ | refine e_seq ?_ | refine e_block ?_ | refine c_block ?_ | refine c_skip ?_ | refine c_ret ?_ | refine c_exit ?_ | refine e_exit rfl ?_ | refine i_s0 rfl ?_ | refine c_leaf ?_ | refine i_gt rfl ?_ | refine i_gf rfl ?_ | refine i_gd rfl ?_ | refine c_t rfl ?_ | refine c_f rfl ?_ | refine i_conv rfl (by simp only [InR, List.length_map]; omega) ?_ | refine i_add rfl rfl (by simp only [InR, List.length_map]; omega) ?_ | refine i_sub rfl rfl (by simp only [InR, List.length_map]; omega) ?_ | refine i_ixm rfl rfl (by assumption) ?_ | refine i_iai rfl rfl (by omega) (by assumption) rfl ?_ | refine i_iam rfl rfl (by assumption) rfl ?_ | refine i_tk rfl rfl (by omega) ?_ | refine i_stb rfl ?_ | refine i_alloc rfl ?_ | refine i_box rfl rfl ?_ | refine i_nv rfl ?_)
    refine e_end ?_
    show WC _ _ _ _ [] _ _ _ _
    repeat (first | refine i_len rfl ?_ | refine i_s rfl ?_ | refine i_lenm rfl rfl rfl ?_ | refine c_seq ?_ | refine c_cut0 ?_ | refine c_ops ?_ | refine i_nil ?_ | refine e_seq ?_ | refine e_block ?_ | refine c_block ?_ | refine c_skip ?_ | refine c_ret ?_ | refine c_exit ?_ | refine e_exit rfl ?_ | refine i_s0 rfl ?_ | refine c_leaf ?_ | refine i_gt rfl ?_ | refine i_gf rfl ?_ | refine i_gd rfl ?_ | refine c_t rfl ?_ | refine c_f rfl ?_ | refine i_conv rfl (by simp only [InR, List.length_map]; omega) ?_ | refine i_add rfl rfl (by simp only [InR, List.length_map]; omega) ?_ | refine i_sub rfl rfl (by simp only [InR, List.length_map]; omega) ?_ | refine i_ixm rfl rfl (by assumption) ?_ | refine i_iai rfl rfl (by omega) (by assumption) rfl ?_ | refine i_iam rfl rfl (by assumption) rfl ?_ | refine i_tk rfl rfl (by omega) ?_ | refine i_stb rfl ?_ | refine i_alloc rfl ?_ | refine i_box rfl rfl ?_ | refine i_nv rfl ?_ | refine i_f rfl rfl (hW) rfl ?_)
    refine c_cond rfl (fun h => ?_) (fun h => ?_)
    · repeat (first | refine i_len rfl ?_ | refine i_s rfl ?_ | refine i_lenm rfl rfl rfl ?_ | refine c_seq ?_ | refine c_cut0 ?_ | refine c_ops ?_ | refine i_nil ?_ | refine e_seq ?_ | refine e_block ?_ | refine c_block ?_ | refine c_skip ?_ | refine c_ret ?_ | refine c_exit ?_ | refine e_exit rfl ?_ | refine i_s0 rfl ?_ | refine c_leaf ?_ | refine i_gt rfl ?_ | refine i_gf rfl ?_ | refine i_gd rfl ?_ | refine c_t rfl ?_ | refine c_f rfl ?_ | refine i_conv rfl (by simp only [InR, List.length_map]; omega) ?_ | refine i_add rfl rfl (by simp only [InR, List.length_map]; omega) ?_ | refine i_sub rfl rfl (by simp only [InR, List.length_map]; omega) ?_ | refine i_ixm rfl rfl (by assumption) ?_ | refine i_iai rfl rfl (by omega) (by assumption) rfl ?_ | refine i_iam rfl rfl (by assumption) rfl ?_ | refine i_tk rfl rfl (by omega) ?_ | refine i_stb rfl ?_ | refine i_alloc rfl ?_ | refine i_box rfl rfl ?_ | refine i_nv rfl ?_)
      refine e_ret ?_
      exact rhq_r rfl rfl (hk1 h)
    · repeat (first | refine i_len rfl ?_ | refine i_s rfl ?_ | refine i_lenm rfl rfl rfl ?_ | refine c_seq ?_ | refine c_cut0 ?_ | refine c_ops ?_ | refine i_nil ?_ | refine e_seq ?_ | refine e_block ?_ | refine c_block ?_ | refine c_skip ?_ | refine c_ret ?_ | refine c_exit ?_ | refine e_exit rfl ?_ | refine i_s0 rfl ?_ | refine c_leaf ?_ | refine i_gt rfl ?_ | refine i_gf rfl ?_ | refine i_gd rfl ?_ | refine c_t rfl ?_ | refine c_f rfl ?_ | refine i_conv rfl (by simp only [InR, List.length_map]; omega) ?_ | refine i_add rfl rfl (by simp only [InR, List.length_map]; omega) ?_ | refine i_sub rfl rfl (by simp only [InR, List.length_map]; omega) ?_ | refine i_ixm rfl rfl (by assumption) ?_ | refine i_iai rfl rfl (by omega) (by assumption) rfl ?_ | refine i_iam rfl rfl (by assumption) rfl ?_ | refine i_tk rfl rfl (by omega) ?_ | refine i_stb rfl ?_ | refine i_alloc rfl ?_ | refine i_box rfl rfl ?_ | refine i_nv rfl ?_)
      refine e_end ?_
      exact rhq_n rfl rfl (hk2 h)
  · split
    · rename_i e; rw [e]
    · rename_i e; rw [e]
def c_R2_Part : Cmd :=
  (.seq
   (.ops [
   .op (some 4) none (.mov (.c (.bool false)))])
   (.cut
   (.seq
   (.ops [
   .op (some 5) none (.mov (.c (.int .i64 (0))))])
   (.cut
   (.seq
   (.seq
   (.ops [
   .op (some 6) none (.mov (.c (.int .i64 (0))))])
   (.cut
   (.block 0
   (.loop
   (.seq
   (.seq
   (.ops [
   .op (some 7) none (.mov (.t 6)),
   .op (some 8) none (.mov (.t 1)),
   .op (some 9) none (.len false (.t 8)),
   .op (some 10) none (.bin .lss false [] (.t 7) (.t 9)),
   .op (some 11) none (.mov (.t 10)),
   .op (some 12) (some (11, true)) (.mov (.t 5)),
   .op (some 13) (some (11, true)) (.mov (.t 0)),
   .op (some 14) (some (11, true)) (.len false (.t 13)),
   .op (some 15) (some (11, true)) (.bin .lss false [] (.t 12) (.t 14)),
   .op (some 16) none (.pick (.t 11) (.t 15) (.c (.bool false)))])
   (.cut
   (.cond (.t 16)
   .skip
   (.exit 0))))
   (.cut
   (.seq
   (.block 1
   (.seq
   (.ops [
   .op (some 19) none (.mov (.t 1)),
   .op (some 20) none (.mov (.t 6)),
   .op (some 21) none (.iaddr 1 (.t 19) (.t 20)),
   .op (some 22) none (.load false 1 (.t 21)),
   .op (some 23) none (.mov (.t 0)),
   .op (some 24) none (.mov (.t 5)),
   .op (some 25) none (.iaddr 1 (.t 23) (.t 24)),
   .op (some 26) none (.load false 1 (.t 25)),
   .op (some 27) none (.bin .eql false [.i] (.t 22) (.t 26))])
   (.cut
   (.cond (.t 27)
   (.ops [
   .op (some 28) none (.mov (.t 5)),
   .op (some 29) none (.bin .add false [] (.t 28) (.c (.int .i64 (1)))),
   .op (some 5) none (.mov (.t 29))])
   .skip))))
   (.cut
   (.ops [
   .op (some 17) none (.mov (.t 6)),
   .op (some 18) none (.bin .add false [] (.t 17) (.c (.int .i64 (1)))),
   .op (some 6) none (.mov (.t 18))])))))))))
   (.cut
   (.seq
   (.ops [
   .op (some 30) none (.mov (.t 5)),
   .op (some 31) none (.mov (.t 0)),
   .op (some 32) none (.len false (.t 31)),
   .op (some 33) none (.bin .eql false [.i] (.t 30) (.t 32)),
   .op (some 4) none (.mov (.t 33))])
   .ret)))))))
def r_R2_Part : List RVar := [.tmp 4]
def n_R2_Part : Nat := 34
theorem k_R2_Part : chkFn Go.Proofs.Try.prog 23 n_R2_Part r_R2_Part c_R2_Part = true := by kernel_rfl
theorem f_R2_Part (l p : List Int) (hl : l.length ≤ 140737488355328) (hp : p.length ≤ 140737488355328) (hs : l.Sublist p) : Fc Go.Proofs.Try.prog 23 [.sl .p (l.map i64V), .sl .p (p.map i64V)] (.bool true) := by
  refine Fn.step mixed k_R2_Part ?_
  repeat (first | refine i_len rfl ?_ | refine i_s rfl ?_ | refine i_lenm rfl rfl rfl ?_ | refine c_seq ?_ | refine c_cut0 ?_ | refine c_ops ?_ | refine i_nil ?_ | refine e_seq ?_ | refine e_block ?_ | refine c_block ?_ | refine c_skip ?_ | refine c_ret ?_ | refine c_exit ?_ | refine e_exit rfl ?_ | refine i_s0 rfl ?_ | refine c_leaf ?_ | refine i_gt rfl ?_ | refine i_gf rfl ?_ | refine i_gd rfl ?_ | refine c_t rfl ?_ | refine c_f rfl ?_ | refine i_conv rfl (by simp only [InR, List.length_map]; omega) ?_ | refine i_add rfl rfl (by simp only [InR, List.length_map]; omega) ?_ | refine i_sub rfl rfl (by simp only [InR, List.length_map]; omega) ?_ | refine i_ixm rfl rfl (by assumption) ?_ | refine i_iai rfl rfl (by omega) (by assumption) rfl ?_ | refine i_iam rfl rfl (by assumption) rfl ?_ | refine i_tk rfl rfl (by omega) ?_ | refine i_stb rfl ?_ | refine i_alloc rfl ?_ | refine i_box rfl rfl ?_ | refine i_nv rfl ?_)
  refine c_lp (ι := Nat × Nat) (fun q => [(0, .sl .p (l.map i64V)), (1, .sl .p (p.map i64V)), (5, .int .i64 q.1), (6, .int .i64 q.2)]) (fun _ => []) (fun q => q.1 ≤ l.length ∧ q.2 ≤ p.length ∧ (l.drop q.1).Sublist (p.drop q.2)) (fun q => p.length - q.2) (0, 0) ⟨Nat.zero_le _, Nat.zero_le _, hs⟩ ⟨by repeat (first | exact trivial | refine ⟨rfl, ?_⟩), by repeat (first | exact trivial | refine ⟨rfl, ?_⟩), rfl⟩ fun q hi => ?_
  obtain ⟨i, k⟩ := q
  obtain ⟨h1, h2, h3⟩ := hi
  simp only at h1 h2 h3
  by_cases hk : k < p.length
  · by_cases hi : i < l.length
    · obtain ⟨x, hx⟩ := get_some hk
      obtain ⟨y, hy⟩ := get_some hi
      have ek : p.drop k = x :: p.drop (k + 1) := by
        obtain ⟨h5, h6⟩ := List.getElem?_eq_some_iff.1 hx
        rw [← h6]; exact List.drop_eq_getElem_cons hk
      have ei : l.drop i = y :: l.drop (i + 1) := by
        obtain ⟨h5, h6⟩ := List.getElem?_eq_some_iff.1 hy
        rw [← h6]; exact List.drop_eq_getElem_cons hi
      rw [ek, ei] at h3
      have hkI : (k : Int) < p.length := by omega
      have hiI : (i : Int) < l.length := by omega
      by_cases e : x = y
      · subst e
        have h4 : (l.drop (i + 1)).Sublist (p.drop (k + 1)) := by
          cases h3 with
          | cons _ h => exact (List.sublist_cons_self _ _).trans h
          | cons_cons _ h => exact h
        repeat' (first | refine i_len rfl ?_ | refine i_s rfl ?_ | refine i_lenm rfl rfl rfl ?_ | refine c_seq ?_ | refine c_cut0 ?_ | refine c_ops ?_ | refine i_nil ?_ | refine e_seq ?_ | refine e_block ?_ | refine c_block ?_ | refine c_skip ?_ | refine c_ret ?_ | refine c_exit ?_ | refine e_exit rfl ?_ | refine i_s0 rfl ?_ | refine c_leaf ?_ | refine i_gt rfl ?_ | refine i_gf rfl ?_ | refine i_gd rfl ?_ | refine c_t rfl ?_ | refine c_f rfl ?_ | refine i_conv rfl (by simp only [InR, List.length_map]; omega) ?_ | refine i_add rfl rfl (by simp only [InR, List.length_map]; omega) ?_ | refine i_sub rfl rfl (by simp only [InR, List.length_map]; omega) ?_ | refine i_ixm rfl rfl (by assumption) ?_ | refine i_iai rfl rfl (by omega) (by assumption) rfl ?_ | refine i_iam rfl rfl (by assumption) rfl ?_ | refine i_tk rfl rfl (by omega) ?_ | refine i_stb rfl ?_ | refine i_alloc rfl ?_ | refine i_box rfl rfl ?_ | refine i_nv rfl ?_ | refine c_node ?_ ?_ | refine i_g rfl (fun h => ?_) (fun h => ?_) | refine c_cond rfl (fun h => ?_) (fun h => ?_))
        all_goals first
          | (exfalso; clear h3 h4 hx hy ek ei hs hkI hiI h1 h2 hk hi hl hp; simp at *; done)
          | (exfalso; clear h3 h4 hx hy ek ei hs; simp at *; omega)
          | exact e_lp (i + 1, k + 1) ⟨hi, hk, h4⟩ (by simp only; omega) ⟨by repeat (first | exact trivial | refine ⟨rfl, ?_⟩), by repeat (first | exact trivial | refine ⟨rfl, ?_⟩), rfl⟩
      · have h4 : (l.drop i).Sublist (p.drop (k + 1)) := by
          rw [ei]
          cases h3 with
          | cons _ h => exact h
          | cons_cons _ h => exact absurd rfl e
        repeat' (first | refine i_len rfl ?_ | refine i_s rfl ?_ | refine i_lenm rfl rfl rfl ?_ | refine c_seq ?_ | refine c_cut0 ?_ | refine c_ops ?_ | refine i_nil ?_ | refine e_seq ?_ | refine e_block ?_ | refine c_block ?_ | refine c_skip ?_ | refine c_ret ?_ | refine c_exit ?_ | refine e_exit rfl ?_ | refine i_s0 rfl ?_ | refine c_leaf ?_ | refine i_gt rfl ?_ | refine i_gf rfl ?_ | refine i_gd rfl ?_ | refine c_t rfl ?_ | refine c_f rfl ?_ | refine i_conv rfl (by simp only [InR, List.length_map]; omega) ?_ | refine i_add rfl rfl (by simp only [InR, List.length_map]; omega) ?_ | refine i_sub rfl rfl (by simp only [InR, List.length_map]; omega) ?_ | refine i_ixm rfl rfl (by assumption) ?_ | refine i_iai rfl rfl (by omega) (by assumption) rfl ?_ | refine i_iam rfl rfl (by assumption) rfl ?_ | refine i_tk rfl rfl (by omega) ?_ | refine i_stb rfl ?_ | refine i_alloc rfl ?_ | refine i_box rfl rfl ?_ | refine i_nv rfl ?_ | refine c_node ?_ ?_ | refine i_g rfl (fun h => ?_) (fun h => ?_) | refine c_cond rfl (fun h => ?_) (fun h => ?_))
        all_goals first
          | (exfalso; clear h3 h4 hx hy ek ei hs; simp at *; contradiction)
          | (exfalso; clear h3 h4 hx hy ek ei hs; simp at *; omega)
          | exact e_lp (i, k + 1) ⟨h1, hk, h4⟩ (by simp only; omega) ⟨by repeat (first | exact trivial | refine ⟨rfl, ?_⟩), by repeat (first | exact trivial | refine ⟨rfl, ?_⟩), rfl⟩
    · have hie : i = l.length := by omega
      have hfin : ((i : Int) == (l.length : Int)) = true := by simp [hie]
      repeat' (first | refine i_len rfl ?_ | refine i_s rfl ?_ | refine i_lenm rfl rfl rfl ?_ | refine c_seq ?_ | refine c_cut0 ?_ | refine c_ops ?_ | refine i_nil ?_ | refine e_seq ?_ | refine e_block ?_ | refine c_block ?_ | refine c_skip ?_ | refine c_ret ?_ | refine c_exit ?_ | refine e_exit rfl ?_ | refine i_s0 rfl ?_ | refine c_leaf ?_ | refine i_gt rfl ?_ | refine i_gf rfl ?_ | refine i_gd rfl ?_ | refine c_t rfl ?_ | refine c_f rfl ?_ | refine i_conv rfl (by simp only [InR, List.length_map]; omega) ?_ | refine i_add rfl rfl (by simp only [InR, List.length_map]; omega) ?_ | refine i_sub rfl rfl (by simp only [InR, List.length_map]; omega) ?_ | refine i_ixm rfl rfl (by assumption) ?_ | refine i_iai rfl rfl (by omega) (by assumption) rfl ?_ | refine i_iam rfl rfl (by assumption) rfl ?_ | refine i_tk rfl rfl (by omega) ?_ | refine i_stb rfl ?_ | refine i_alloc rfl ?_ | refine i_box rfl rfl ?_ | refine i_nv rfl ?_ | refine c_node ?_ ?_ | refine i_g rfl (fun h => ?_) (fun h => ?_) | refine c_cond rfl (fun h => ?_) (fun h => ?_))
      all_goals first
        | exact e_ret ⟨rfl, _, rfl, congrArg V.bool hfin.symm⟩
        | (exfalso; clear h3 hs; simp at *; omega)
  · have hke : k = p.length := by omega
    have hie : i = l.length := by
      rw [hke, List.drop_length] at h3
      have := List.sublist_nil.1 h3
      have := List.drop_eq_nil_iff.1 this
      omega
    have hfin : ((i : Int) == (l.length : Int)) = true := by simp [hie]
    repeat' (first | refine i_len rfl ?_ | refine i_s rfl ?_ | refine i_lenm rfl rfl rfl ?_ | refine c_seq ?_ | refine c_cut0 ?_ | refine c_ops ?_ | refine i_nil ?_ | refine e_seq ?_ | refine e_block ?_ | refine c_block ?_ | refine c_skip ?_ | refine c_ret ?_ | refine c_exit ?_ | refine e_exit rfl ?_ | refine i_s0 rfl ?_ | refine c_leaf ?_ | refine i_gt rfl ?_ | refine i_gf rfl ?_ | refine i_gd rfl ?_ | refine c_t rfl ?_ | refine c_f rfl ?_ | refine i_conv rfl (by simp only [InR, List.length_map]; omega) ?_ | refine i_add rfl rfl (by simp only [InR, List.length_map]; omega) ?_ | refine i_sub rfl rfl (by simp only [InR, List.length_map]; omega) ?_ | refine i_ixm rfl rfl (by assumption) ?_ | refine i_iai rfl rfl (by omega) (by assumption) rfl ?_ | refine i_iam rfl rfl (by assumption) rfl ?_ | refine i_tk rfl rfl (by omega) ?_ | refine i_stb rfl ?_ | refine i_alloc rfl ?_ | refine i_box rfl rfl ?_ | refine i_nv rfl ?_ | refine c_node ?_ ?_ | refine i_g rfl (fun h => ?_) (fun h => ?_) | refine c_cond rfl (fun h => ?_) (fun h => ?_))
    all_goals first
      | exact e_ret ⟨rfl, _, rfl, congrArg V.bool hfin.symm⟩
      | (exfalso; clear h3 hs; simp at *; omega)
end Hm
end

section
/- Contracts: the closed example of plans. -/
namespace Hm
open Go
set_option maxRecDepth 100000
set_option maxHeartbeats 4000000
set_option linter.unusedSimpArgs false
set_option linter.unusedVariables false
/- A nil slice read as an empty one. -/
def nilL : V → V
  | .sl .nil [] => .sl .p []
  | v => v
def nilR : V → V
  | .agg l => .agg (l.map nilL)
  | v => nilL v
theorem RepP.nilL {w : World} {S : Nat → Prop} {v : V} {x : Value} (h : RepP w S v x) : RepP w S (Hm.nilL v) x := by
  cases h with
  | nilsl a => exact .emp a 0
  | any x => exact .any x
  | bool b => exact .bool b
  | int k n => exact .int k n
  | str l => exact .str l
  | agg l xs hl h => exact .agg l xs hl h
  | tup l xs hl h => exact .tup l xs hl h
  | fn f l xs hl h => exact .fn f l xs hl h
  | emp a cap => exact .emp a cap
  | sl rows b off cap m ys h1 h2 h3 h4 h5 => exact .sl rows b off cap m ys h1 h2 h3 h4 h5
  | cptr row b o j ys h1 h2 h3 => exact .cptr row b o j ys h1 h2 h3
  | nilptr => exact .nilptr
  | nilfn => exact .nilfn
theorem nilR_cells (row : V) : (nilR row).cells = row.cells.map nilL := by
  cases row with
  | agg l => rfl
  | sl t rows =>
    cases t <;> cases rows <;> rfl
  | _ => rfl
theorem RepP.nilRows {w : World} {S : Nat → Prop} {rows : List V} {x : Value} (h : RepP w S (.sl .p rows) x) : RepP w S (.sl .p (rows.map nilR)) x := by
  cases h with
  | emp a cap => exact .emp a cap
  | sl _ b off cap m ys h1 h2 h3 h4 h5 =>
    have key : ∀ (i j : Nat) (row v : V), (rows.map nilR)[i]? = some row → row.cells[j]? = some v → ∃ row0 v0, rows[i]? = some row0 ∧ row0.cells[j]? = some v0 ∧ v = Hm.nilL v0 := by
      intro i j row v q1 q2
      rw [List.getElem?_map] at q1
      cases q3 : rows[i]? with
      | none => rw [q3] at q1; cases q1
      | some row0 =>
        rw [q3] at q1
        cases q1
        rw [nilR_cells, List.getElem?_map] at q2
        cases q4 : row0.cells[j]? with
        | none => rw [q4] at q2; cases q2
        | some v0 => rw [q4] at q2; cases q2; exact ⟨row0, v0, rfl, q4, rfl⟩
    have := RepP.sl (w := w) (S := S) (rows.map nilR) b off cap m ys h1 (by simpa using h2) (fun row hr => by
      obtain ⟨r0, hr0, rfl⟩ := List.mem_map.1 hr
      rw [nilR_cells, List.length_map]; exact h3 r0 hr0) (fun i j row v q1 q2 => by
      obtain ⟨r0, v0, p1, p2, rfl⟩ := key i j row v q1 q2
      exact h4 i j r0 v0 p1 p2) (fun i j row v q1 q2 => by
      obtain ⟨r0, v0, p1, p2, rfl⟩ := key i j row v q1 q2
      exact (h5 i j r0 v0 p1 p2).nilL)
    rwa [List.length_map] at this
/-- A task whose operators bear nil slices, read as one with empty ones. -/
theorem Fc_ops {P : Program} {f : Nat} {a b c r : V} {rows : List V} {rest : List V} (h : Fc P f (.agg [a, b, c, .sl .p (rows.map nilR)] :: rest) r) : Fc P f (.agg [a, b, c, .sl .p rows] :: rest) r := by
  obtain ⟨h1, h2⟩ := h.out
  refine ⟨h1, fun w S xs hS hxs => h2 w S xs hS ⟨by simpa using hxs.1, fun i v x hi hx => ?_⟩⟩
  cases i with
  | succ i => exact hxs.2 (i + 1) v x hi hx
  | zero =>
    simp at hi
    subst hi
    have := hxs.2 0 _ x rfl hx
    cases this with
    | agg l xs hl h =>
      refine .agg _ xs (by simpa using hl) fun i v x q1 q2 => ?_
      match i with
      | 0 => exact h 0 v x q1 q2
      | 1 => exact h 1 v x q1 q2
      | 2 => exact h 2 v x q1 q2
      | 3 =>
        simp at q1
        subst q1
        exact (h 3 _ x rfl q2).nilRows
      | i + 4 => simp at q1
def shT : STask := ⟨3, [0], [2], [⟨[0], [1], [0], 2⟩, ⟨[1], [2], [1], 3⟩, ⟨[0], [0], [], 1⟩]⟩
theorem sh_ok : SkOk shT := by
  refine ⟨by decide, by decide, by decide, fun o ho => ?_⟩
  simp only [shT, List.mem_cons, List.not_mem_nil, or_false] at ho
  rcases ho with rfl | rfl | rfl <;> exact ⟨by decide, by decide, by decide⟩
theorem sh_u3 : updL [0] [0] [] = [0] := updL_c (n := 3) (by decide +kernel) (by decide +kernel) (by decide +kernel)
theorem sh_t0 : stepS shT [0] 0 = some [1] := by rw [stepS_op (o := ⟨[0], [1], [0], 2⟩) rfl, if_pos (by decide +kernel), ac_u1]
theorem sh_t1 : stepS shT [1] 1 = some [2] := by rw [stepS_op (o := ⟨[1], [2], [1], 3⟩) rfl, if_pos (by decide +kernel), ac_u2]
theorem sh_t2 : stepS shT [0] 2 = some [0] := by rw [stepS_op (o := ⟨[0], [0], [], 1⟩) rfl, if_pos (by decide +kernel), sh_u3]
theorem sh_t01 : stepS shT [0] 1 = none := by rw [stepS_op (o := ⟨[1], [2], [1], 3⟩) rfl, if_neg (by decide +kernel)]
theorem sh_i : shT.init = [0] := rfl
theorem sh_g (s : List Int) : inclB shT.goal s = inclB [2] s := rfl
theorem sh_w201 : worksB shT shT.init [2, 0, 1] = true := by
  unfold worksB; rw [show endS shT shT.init [2, 0, 1] = some [2] from by simp [endS, sh_i, sh_t0, sh_t1, sh_t2]]; decide +kernel
theorem sh_w01 : worksB shT shT.init [0, 1] = true := by
  unfold worksB; rw [show endS shT shT.init [0, 1] = some [2] from by simp [endS, sh_i, sh_t0, sh_t1]]; decide +kernel
theorem sh_w0 : worksB shT shT.init [0] = false := by
  unfold worksB; rw [show endS shT shT.init [0] = some [1] from by simp [endS, sh_i, sh_t0]]; decide +kernel
theorem sh_w1 : worksB shT shT.init [1] = false := by
  unfold worksB; rw [show endS shT shT.init [1] = none from by simp [endS, sh_i, sh_t01]]
theorem sh_w : worksB shT shT.init [] = false := by
  unfold worksB; rw [show endS shT shT.init [] = some [0] from rfl]; decide +kernel
theorem sh_w20 : worksB shT shT.init [2, 0] = false := by
  unfold worksB; rw [show endS shT shT.init [2, 0] = some [1] from by simp [endS, sh_i, sh_t0, sh_t2]]; decide +kernel
theorem sh_w21 : worksB shT shT.init [2, 1] = false := by
  unfold worksB; rw [show endS shT shT.init [2, 1] = none from by simp [endS, sh_i, sh_t01, sh_t2]]
theorem sh_w2 : worksB shT shT.init [2] = false := by
  unfold worksB; rw [show endS shT shT.init [2] = some [0] from by simp [endS, sh_i, sh_t2]]; decide +kernel
theorem sh_p (l : List Int) (h : stepsF 3 l = okF) : plFault shT l = okF := by
  unfold plFault; rw [if_pos (by decide +kernel)]; exact h
theorem sh_fail : failI shT [2, 1] = 1 := by
  unfold failI
  rw [show runT shT shT.init [2, 1] = [[0]] from by simp [runT, sh_i, sh_t2, sh_t01]]; decide
theorem sh_o0 : omitL shT [2, 0, 1] 0 = [0, 1] := by
  unfold omitL
  rw [show endS shT shT.init ([2, 0, 1].take 0) = some [0] from rfl]
  simp [keepT, sh_t0, sh_t1]
theorem sh_o1 : omitL shT [0, 1] 0 = [] := by
  unfold omitL
  rw [show endS shT shT.init ([0, 1].take 0) = some [0] from rfl]
  simp [keepT, sh_t01]
theorem sh_o2 : omitL shT [0, 1] 1 = [0] := by
  unfold omitL
  rw [show endS shT shT.init ([0, 1].take 1) = some [1] from by simp [endS, sh_i, sh_t0]]
  simp [keepT]
theorem sh_red : redL shT [2, 0, 1] 0 = [0, 1] := by
  rw [redL_cut (by decide) (by rw [sh_o0]; exact sh_w01), sh_o0, redL_next (by decide) (by rw [sh_o1]; exact sh_w), redL_next (by decide) (by rw [sh_o2]; exact sh_w0), redL_end (by decide)]
theorem sh_m1 : minB shT [0, 1] = true := by simp [minB, shB, sh_w, sh_w0, sh_w1]
theorem sh_m2 : minB shT [2, 0, 1] = false := by simp [minB, shB, sh_w01]
end Hm
end

section
/- Contracts: the closed example of plans answers true. -/
namespace Hm
open Go
set_option maxRecDepth 100000
set_option maxHeartbeats 4000000
set_option linter.unusedSimpArgs false
set_option linter.unusedVariables false
def c_StepsB : Cmd :=
  (.seq
   (.ops [
   .op (some 0) none (.alloc 1920004 (.agg [.int .i64 (0), .sl .nil [], .sl .nil [], .sl .nil []]))])
   (.cut
   (.seq
   (.ops [
   .op (some 1) none (.bsl 1 [.c (.int .i64 (0))]),
   .op (some 2) none (.bsl 1 [.c (.int .i64 (2))]),
   .op (some 3) none (.bsl 1 [.c (.int .i64 (0))]),
   .op (some 4) none (.bsl 1 [.c (.int .i64 (1))]),
   .op (some 5) none (.bsl 1 [.c (.int .i64 (0))]),
   .op (some 6) none (.build [.sl .nil [], .sl .nil [], .sl .nil [], .int .i64 (0)] [(0, 1, .t 3), (1, 1, .t 4), (2, 1, .t 5), (3, 1, .c (.int .i64 (2)))]),
   .op (some 7) none (.bsl 1 [.c (.int .i64 (1))]),
   .op (some 8) none (.bsl 1 [.c (.int .i64 (2))]),
   .op (some 9) none (.bsl 1 [.c (.int .i64 (1))]),
   .op (some 10) none (.build [.sl .nil [], .sl .nil [], .sl .nil [], .int .i64 (0)] [(0, 1, .t 7), (1, 1, .t 8), (2, 1, .t 9), (3, 1, .c (.int .i64 (3)))]),
   .op (some 11) none (.bslO 1920708 4 [.t 6, .t 10]),
   .op (some 12) none (.build [.int .i64 (0), .sl .nil [], .sl .nil [], .sl .nil []] [(0, 1, .c (.int .i64 (3))), (1, 1, .t 1), (2, 1, .t 2), (3, 1, .t 11)]),
   .op none none (.store 4 (.t 0) (.t 12))])
   .ret)))
def r_StepsB : List RVar := [.cell true 4 0]
def n_StepsB : Nat := 13
theorem k_StepsB : chkFn Go.Proofs.Try.prog 30 n_StepsB r_StepsB c_StepsB = true := by kernel_rfl
theorem ct_L1_steps (σ : Store) (h1 : σ 1920708 = .unused) (hp : ∀ nm, σ nm ≠ .unused → nm ∈ [1920708]) :
    Cc Go.Proofs.Try.prog noH 30 [] [1920708] σ () fun v σ' g' => v = .agg [.int .i64 3, .sl .p ([0].map i64V), .sl .p ([2].map i64V), .sl (.own 1920708) (acT.ops.map soV)] ∧ σ' = stOf [(1920708, .vec 2)] ∧ g' = () := by
  refine CT.step _ mixed k_StepsB hp fun hM => ?_
  refine c_seq ?_
  refine c_ops ?_
  refine i_alloc (by by_cases h : σ 1920004 = .unused; exact h; have := hp _ h; simp at this) ?_
  refine i_nil ?_
  refine e_seq ?_
  refine c_cut [(0, .bptr 1920004 0)] [(1920708, .unused), (1920004, .box (.agg [.int .i64 0, .sl .nil [], .sl .nil [], .sl .nil []]))] ⟨⟨rfl, trivial⟩, ⟨by rw [upt_ne _ _ (by decide)]; exact h1, by rw [upt_self], trivial⟩, rfl⟩ ?_
  repeat (first | refine i_len rfl ?_ | refine i_s rfl ?_ | refine i_lenm rfl rfl rfl ?_ | refine c_seq ?_ | refine c_cut0 ?_ | refine c_ops ?_ | refine i_nil ?_ | refine e_seq ?_ | refine e_block ?_ | refine c_block ?_ | refine c_skip ?_ | refine c_ret ?_ | refine c_exit ?_ | refine e_exit rfl ?_ | refine i_s0 rfl ?_ | refine c_leaf ?_ | refine i_gt rfl ?_ | refine i_gf rfl ?_ | refine i_gd rfl ?_ | refine c_t rfl ?_ | refine c_f rfl ?_ | refine i_conv rfl (by simp only [InR, List.length_map]; omega) ?_ | refine i_add rfl rfl (by simp only [InR, List.length_map]; omega) ?_ | refine i_sub rfl rfl (by simp only [InR, List.length_map]; omega) ?_ | refine i_ixm rfl rfl (by assumption) ?_ | refine i_iai rfl rfl (by omega) (by assumption) rfl ?_ | refine i_iam rfl rfl (by assumption) rfl ?_ | refine i_tk rfl rfl (by omega) ?_ | refine i_stb rfl ?_ | refine i_alloc rfl ?_ | refine i_box rfl rfl ?_ | refine i_nv rfl ?_)
  refine i_bslo rfl rfl rfl rfl ?_
  repeat (first | refine i_len rfl ?_ | refine i_s rfl ?_ | refine i_lenm rfl rfl rfl ?_ | refine c_seq ?_ | refine c_cut0 ?_ | refine c_ops ?_ | refine i_nil ?_ | refine e_seq ?_ | refine e_block ?_ | refine c_block ?_ | refine c_skip ?_ | refine c_ret ?_ | refine c_exit ?_ | refine e_exit rfl ?_ | refine i_s0 rfl ?_ | refine c_leaf ?_ | refine i_gt rfl ?_ | refine i_gf rfl ?_ | refine i_gd rfl ?_ | refine c_t rfl ?_ | refine c_f rfl ?_ | refine i_conv rfl (by simp only [InR, List.length_map]; omega) ?_ | refine i_add rfl rfl (by simp only [InR, List.length_map]; omega) ?_ | refine i_sub rfl rfl (by simp only [InR, List.length_map]; omega) ?_ | refine i_ixm rfl rfl (by assumption) ?_ | refine i_iai rfl rfl (by omega) (by assumption) rfl ?_ | refine i_iam rfl rfl (by assumption) rfl ?_ | refine i_tk rfl rfl (by omega) ?_ | refine i_stb rfl ?_ | refine i_alloc rfl ?_ | refine i_box rfl rfl ?_ | refine i_nv rfl ?_)
  refine e_ret ⟨rfl, _, rfl, rfl, rfl, rfl, ?_, rfl⟩
  rw [restr_stOf]; rfl
def shV : List V := acT.ops.map soV ++ [.agg [.sl .p [.int .i64 0], .sl .p [.int .i64 0], .sl .nil [], .int .i64 1]]
theorem sh_V : shV.map nilR = shT.ops.map soV := rfl
theorem sh_arg {f : Nat} {r : V} {rest : List V} (h : Fc Go.Proofs.Try.prog f (skV shT :: rest) r) : Fc Go.Proofs.Try.prog f (.agg [.int .i64 3, .sl .p ([0].map i64V), .sl .p ([2].map i64V), .sl .p shV] :: rest) r := by
  refine Fc_ops ?_
  rw [sh_V]
  exact h
theorem f_sh1 : Fc Go.Proofs.Try.prog 9 [.agg [.int .i64 3, .sl .p ([0].map i64V), .sl .p ([2].map i64V), .sl .p shV], .sl .p ([2, 1].map i64V)] (.tup [.int .i64 1, ftV okF]) := by
  have := f_plans_Failure_ok shT sh_ok [2, 1] (sh_p _ (by decide +kernel))
  rw [sh_fail] at this
  exact sh_arg this
theorem f_sh2 : Fc Go.Proofs.Try.prog 13 [.agg [.int .i64 3, .sl .p ([0].map i64V), .sl .p ([2].map i64V), .sl .p shV], .sl .p ([2, 0, 1].map i64V)] (.tup [.sl .p ([0, 1].map i64V), ftV okF]) := by
  have := f_plans_Reduce_ok shT sh_ok [2, 0, 1] (by unfold solF; rw [if_pos (sh_p _ (by decide +kernel)), if_pos sh_w201])
  rw [sh_red] at this
  exact sh_arg this
theorem f_sh3 : Fc Go.Proofs.Try.prog 17 [.agg [.int .i64 3, .sl .p ([0].map i64V), .sl .p ([2].map i64V), .sl .p shV], .sl .p ([0, 1].map i64V)] (.tup [.bool true, ftV okF]) := by
  have := f_plans_Minimal_ok shT sh_ok [0, 1] (by unfold minF solF; rw [if_pos (sh_p _ (by decide +kernel)), if_pos sh_w01]; rfl)
  rw [sh_m1] at this
  exact sh_arg this
theorem f_sh4 : Fc Go.Proofs.Try.prog 17 [.agg [.int .i64 3, .sl .p ([0].map i64V), .sl .p ([2].map i64V), .sl .p shV], .sl .p ([2, 0, 1].map i64V)] (.tup [.bool false, ftV okF]) := by
  have := f_plans_Minimal_ok shT sh_ok [2, 0, 1] (by unfold minF solF; rw [if_pos (sh_p _ (by decide +kernel)), if_pos sh_w201]; rfl)
  rw [sh_m2] at this
  exact sh_arg this
theorem f_sh5 : Fc Go.Proofs.Try.prog 13 [.agg [.int .i64 3, .sl .p ([0].map i64V), .sl .p ([2].map i64V), .sl .p shV], .sl .p (([] : List Int).map i64V)] (.tup [.sl .p [], ftV ⟨11, -8⟩]) := by
  have e : solF shT [] = ⟨11, -8⟩ := by unfold solF; rw [if_pos (sh_p _ (by decide +kernel)), if_neg (by rw [sh_w]; simp)]
  have := f_plans_Reduce_bad shT sh_ok [] (by decide) (by rw [e]; simp [okF])
  rw [e] at this
  exact sh_arg this
theorem f_sh6 : Fc Go.Proofs.Try.prog 14 [.sl .p ([0, 1].map i64V), .sl .p ([0, 1].map i64V)] (.bool true) := f_Ints_same [0, 1] (by decide)
def c_L1_shortens : Cmd :=
  (.seq
   (.ops [
   .op (some 0) none (.mov (.c (.bool false)))])
   (.cut
   (.seq
   (.ops [
   .op (some 12) none (.call (.s [1920708]) (.c (.fn 30 [])) []),
   .op (some 1) none (.alloc 640068 (.agg [.int .i64 (0), .sl .nil [], .sl .nil [], .sl .nil []])),
   .op none none (.store 4 (.t 1) (.t 12))])
   (.cut
   (.seq
   (.ops [
   .op (some 13) none (.faddr 3 (.t 1)),
   .op (some 14) none (.load false 1 (.t 13)),
   .op (some 15) none (.bsl 1 [.c (.int .i64 (0))]),
   .op (some 16) none (.bsl 1 [.c (.int .i64 (0))]),
   .op (some 17) none (.build [.sl .nil [], .sl .nil [], .sl .nil [], .int .i64 (0)] [(0, 1, .t 15), (1, 1, .t 16), (3, 1, .c (.int .i64 (1)))]),
   .op (some 18) none (.bsl 4 [.t 17]),
   .op (some 19) none (.append 4 80 (.t 14) (.t 18)),
   .op (some 20) none (.faddr 3 (.t 1)),
   .op none none (.store 1 (.t 20) (.t 19))])
   (.fzb 1 3 (.cut
   (.seq
   (.ops [
   .op (some 22) none (.load true 4 (.t 1)),
   .op (some 23) none (.bsl 1 [.c (.int .i64 (2)), .c (.int .i64 (1))]),
   .op (some 24) none (.call .f (.c (.fn 9 [])) [.t 22, .t 23]),
   .op (some 21) none (.mov (.t 24)),
   .op (some 25) none (.extract (.t 21) 0),
   .op (some 26) none (.extract (.t 21) 1),
   .op (some 3) none (.alloc 640194 (.agg [.int .i64 (0), .int .i64 (0)])),
   .op (some 2) none (.mov (.t 25)),
   .op none none (.store 2 (.t 3) (.t 26))])
   (.cut
   (.seq
   (.ops [
   .op (some 28) none (.load true 4 (.t 1)),
   .op (some 29) none (.bsl 1 [.c (.int .i64 (2)), .c (.int .i64 (0)), .c (.int .i64 (1))]),
   .op (some 30) none (.call .f (.c (.fn 13 [])) [.t 28, .t 29]),
   .op (some 27) none (.mov (.t 30)),
   .op (some 31) none (.extract (.t 27) 0),
   .op (some 32) none (.extract (.t 27) 1),
   .op (some 5) none (.alloc 640322 (.agg [.int .i64 (0), .int .i64 (0)])),
   .op (some 4) none (.mov (.t 31)),
   .op none none (.store 2 (.t 5) (.t 32))])
   (.cut
   (.seq
   (.ops [
   .op (some 34) none (.load true 4 (.t 1)),
   .op (some 35) none (.bsl 1 [.c (.int .i64 (0)), .c (.int .i64 (1))]),
   .op (some 36) none (.call .f (.c (.fn 17 [])) [.t 34, .t 35]),
   .op (some 33) none (.mov (.t 36)),
   .op (some 37) none (.extract (.t 33) 0),
   .op (some 38) none (.extract (.t 33) 1),
   .op (some 7) none (.alloc 640450 (.agg [.int .i64 (0), .int .i64 (0)])),
   .op (some 6) none (.mov (.t 37)),
   .op none none (.store 2 (.t 7) (.t 38))])
   (.cut
   (.seq
   (.ops [
   .op (some 40) none (.load true 4 (.t 1)),
   .op (some 41) none (.bsl 1 [.c (.int .i64 (2)), .c (.int .i64 (0)), .c (.int .i64 (1))]),
   .op (some 42) none (.call .f (.c (.fn 17 [])) [.t 40, .t 41]),
   .op (some 39) none (.mov (.t 42)),
   .op (some 43) none (.extract (.t 39) 0),
   .op (some 44) none (.extract (.t 39) 1),
   .op (some 9) none (.alloc 640578 (.agg [.int .i64 (0), .int .i64 (0)])),
   .op (some 8) none (.mov (.t 43)),
   .op none none (.store 2 (.t 9) (.t 44))])
   (.cut
   (.seq
   (.ops [
   .op (some 46) none (.load true 4 (.t 1)),
   .op (some 47) none (.call .f (.c (.fn 13 [])) [.t 46, .c (.sl .nil [])]),
   .op (some 45) none (.mov (.t 47)),
   .op (some 48) none (.extract (.t 45) 0),
   .op (some 49) none (.extract (.t 45) 1),
   .op (some 11) none (.alloc 640706 (.agg [.int .i64 (0), .int .i64 (0)])),
   .op (some 10) none (.mov (.t 48)),
   .op none none (.store 2 (.t 11) (.t 49))])
   (.cut
   (.seq
   (.ops [
   .op (some 50) none (.faddr 0 (.t 3)),
   .op (some 51) none (.load false 1 (.t 50)),
   .op (some 52) none (.bin .eql false [.i] (.t 51) (.c (.int .i64 (0)))),
   .op (some 53) none (.mov (.t 52)),
   .op (some 54) (some (53, true)) (.faddr 0 (.t 5)),
   .op (some 55) (some (53, true)) (.load false 1 (.t 54)),
   .op (some 56) (some (53, true)) (.bin .eql false [.i] (.t 55) (.c (.int .i64 (0)))),
   .op (some 57) none (.pick (.t 53) (.t 56) (.c (.bool false))),
   .op (some 58) none (.mov (.t 57)),
   .op (some 59) (some (58, true)) (.faddr 0 (.t 7)),
   .op (some 60) (some (58, true)) (.load false 1 (.t 59)),
   .op (some 61) (some (58, true)) (.bin .eql false [.i] (.t 60) (.c (.int .i64 (0)))),
   .op (some 62) none (.pick (.t 58) (.t 61) (.c (.bool false))),
   .op (some 63) none (.mov (.t 62)),
   .op (some 64) (some (63, true)) (.faddr 0 (.t 9)),
   .op (some 65) (some (63, true)) (.load false 1 (.t 64)),
   .op (some 66) (some (63, true)) (.bin .eql false [.i] (.t 65) (.c (.int .i64 (0)))),
   .op (some 67) none (.pick (.t 63) (.t 66) (.c (.bool false))),
   .op (some 68) none (.mov (.t 67)),
   .op (some 69) (some (68, true)) (.load true 2 (.t 11)),
   .op (some 70) (some (68, true)) (.call .f (.c (.fn 16 [])) [.c (.int .i64 (11)), .c (.int .i64 (-8))]),
   .op (some 71) (some (68, true)) (.bin .eql true [.i, .i] (.t 69) (.t 70)),
   .op (some 72) none (.pick (.t 68) (.t 71) (.c (.bool false))),
   .op (some 73) none (.mov (.t 72)),
   .op (some 74) (some (73, true)) (.mov (.t 2)),
   .op (some 75) (some (73, true)) (.bin .eql false [.i] (.t 74) (.c (.int .i64 (1)))),
   .op (some 76) none (.pick (.t 73) (.t 75) (.c (.bool false))),
   .op (some 77) none (.mov (.t 76)),
   .op (some 78) (some (77, true)) (.mov (.t 4)),
   .op (some 79) (some (77, true)) (.bsl 1 [.c (.int .i64 (0)), .c (.int .i64 (1))]),
   .op (some 80) (some (77, true)) (.call .f (.c (.fn 14 [])) [.t 78, .t 79]),
   .op (some 81) none (.pick (.t 77) (.t 80) (.c (.bool false))),
   .op (some 82) none (.mov (.t 81)),
   .op (some 83) (some (82, true)) (.mov (.t 6)),
   .op (some 84) none (.pick (.t 82) (.t 83) (.c (.bool false))),
   .op (some 85) none (.mov (.t 84)),
   .op (some 86) (some (85, true)) (.mov (.t 8)),
   .op (some 87) (some (85, true)) (.not (.t 86)),
   .op (some 88) none (.pick (.t 85) (.t 87) (.c (.bool false))),
   .op (some 0) none (.mov (.t 88))])
   .ret))))))))))))))))))
def r_L1_shortens : List RVar := [.tmp 0]
def n_L1_shortens : Nat := 89
theorem k_L1_shortens : chkFn Go.Proofs.Try.prog 10 n_L1_shortens r_L1_shortens c_L1_shortens = true := by kernel_rfl
theorem f_L1_shortens : Fc Go.Proofs.Try.prog 10 [] (.bool true) := by
  refine Fn.step mixed k_L1_shortens ?_
  repeat (first | refine i_len rfl ?_ | refine i_s rfl ?_ | refine i_lenm rfl rfl rfl ?_ | refine c_seq ?_ | refine c_cut0 ?_ | refine c_ops ?_ | refine i_nil ?_ | refine e_seq ?_ | refine e_block ?_ | refine c_block ?_ | refine c_skip ?_ | refine c_ret ?_ | refine c_exit ?_ | refine e_exit rfl ?_ | refine i_s0 rfl ?_ | refine c_leaf ?_ | refine i_gt rfl ?_ | refine i_gf rfl ?_ | refine i_gd rfl ?_ | refine c_t rfl ?_ | refine c_f rfl ?_ | refine i_conv rfl (by simp only [InR, List.length_map]; omega) ?_ | refine i_add rfl rfl (by simp only [InR, List.length_map]; omega) ?_ | refine i_sub rfl rfl (by simp only [InR, List.length_map]; omega) ?_ | refine i_ixm rfl rfl (by assumption) ?_ | refine i_iai rfl rfl (by omega) (by assumption) rfl ?_ | refine i_iam rfl rfl (by assumption) rfl ?_ | refine i_tk rfl rfl (by omega) ?_ | refine i_stb rfl ?_ | refine i_alloc rfl ?_ | refine i_box rfl rfl ?_ | refine i_nv rfl ?_)
  refine i_c rfl rfl rfl (ct_L1_steps _ rfl fun nm h => restr_mem nm h) ?_
  rintro _ _ _ ⟨rfl, rfl, rfl⟩
  repeat (first | refine i_len rfl ?_ | refine i_s rfl ?_ | refine i_lenm rfl rfl rfl ?_ | refine c_seq ?_ | refine c_cut0 ?_ | refine c_ops ?_ | refine i_nil ?_ | refine e_seq ?_ | refine e_block ?_ | refine c_block ?_ | refine c_skip ?_ | refine c_ret ?_ | refine c_exit ?_ | refine e_exit rfl ?_ | refine i_s0 rfl ?_ | refine c_leaf ?_ | refine i_gt rfl ?_ | refine i_gf rfl ?_ | refine i_gd rfl ?_ | refine c_t rfl ?_ | refine c_f rfl ?_ | refine i_conv rfl (by simp only [InR, List.length_map]; omega) ?_ | refine i_add rfl rfl (by simp only [InR, List.length_map]; omega) ?_ | refine i_sub rfl rfl (by simp only [InR, List.length_map]; omega) ?_ | refine i_ixm rfl rfl (by assumption) ?_ | refine i_iai rfl rfl (by omega) (by assumption) rfl ?_ | refine i_iam rfl rfl (by assumption) rfl ?_ | refine i_tk rfl rfl (by omega) ?_ | refine i_stb rfl ?_ | refine i_alloc rfl ?_ | refine i_box rfl rfl ?_ | refine i_nv rfl ?_)
  refine i_app1 rfl rfl rfl rfl rfl (by decide) (by decide) ?_
  repeat (first | refine i_len rfl ?_ | refine i_s rfl ?_ | refine i_lenm rfl rfl rfl ?_ | refine c_seq ?_ | refine c_cut0 ?_ | refine c_ops ?_ | refine i_nil ?_ | refine e_seq ?_ | refine e_block ?_ | refine c_block ?_ | refine c_skip ?_ | refine c_ret ?_ | refine c_exit ?_ | refine e_exit rfl ?_ | refine i_s0 rfl ?_ | refine c_leaf ?_ | refine i_gt rfl ?_ | refine i_gf rfl ?_ | refine i_gd rfl ?_ | refine c_t rfl ?_ | refine c_f rfl ?_ | refine i_conv rfl (by simp only [InR, List.length_map]; omega) ?_ | refine i_add rfl rfl (by simp only [InR, List.length_map]; omega) ?_ | refine i_sub rfl rfl (by simp only [InR, List.length_map]; omega) ?_ | refine i_ixm rfl rfl (by assumption) ?_ | refine i_iai rfl rfl (by omega) (by assumption) rfl ?_ | refine i_iam rfl rfl (by assumption) rfl ?_ | refine i_tk rfl rfl (by omega) ?_ | refine i_stb rfl ?_ | refine i_alloc rfl ?_ | refine i_box rfl rfl ?_ | refine i_nv rfl ?_)
  refine c_fzb rfl rfl rfl rfl ?_
  repeat' (first | refine i_len rfl ?_ | refine i_s rfl ?_ | refine i_lenm rfl rfl rfl ?_ | refine c_seq ?_ | refine c_cut0 ?_ | refine c_ops ?_ | refine i_nil ?_ | refine e_seq ?_ | refine e_block ?_ | refine c_block ?_ | refine c_skip ?_ | refine c_ret ?_ | refine c_exit ?_ | refine e_exit rfl ?_ | refine i_s0 rfl ?_ | refine c_leaf ?_ | refine i_gt rfl ?_ | refine i_gf rfl ?_ | refine i_gd rfl ?_ | refine c_t rfl ?_ | refine c_f rfl ?_ | refine i_conv rfl (by simp only [InR, List.length_map]; omega) ?_ | refine i_add rfl rfl (by simp only [InR, List.length_map]; omega) ?_ | refine i_sub rfl rfl (by simp only [InR, List.length_map]; omega) ?_ | refine i_ixm rfl rfl (by assumption) ?_ | refine i_iai rfl rfl (by omega) (by assumption) rfl ?_ | refine i_iam rfl rfl (by assumption) rfl ?_ | refine i_tk rfl rfl (by omega) ?_ | refine i_stb rfl ?_ | refine i_alloc rfl ?_ | refine i_box rfl rfl ?_ | refine i_nv rfl ?_ | refine c_node ?_ ?_ | refine i_g rfl (fun h => ?_) (fun h => ?_) | refine c_cond rfl (fun h => ?_) (fun h => ?_) | refine i_f rfl rfl (f_sh1) rfl ?_ | refine i_f rfl rfl (f_sh2) rfl ?_ | refine i_f rfl rfl (f_sh3) rfl ?_ | refine i_f rfl rfl (f_sh4) rfl ?_ | refine i_f rfl rfl (f_sh5) rfl ?_ | refine i_f rfl rfl (f_sh6) rfl ?_ | refine i_f rfl rfl (f_R1_At _ _) rfl ?_)
  all_goals exact e_ret ⟨rfl, _, rfl, rfl⟩
end Hm
end
