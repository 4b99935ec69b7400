/- The law of failures and reductions answers true. -/
import Derived.Test.YtnkfkddgbiijgaaPlB
section
/- The law of failures and reductions answers true. -/
namespace Hm
open Go
set_option maxRecDepth 100000
set_option maxHeartbeats 4000000
set_option linter.unusedSimpArgs false
set_option linter.unusedVariables false
theorem solF_pl {t : STask} {plan : List Int} (h : plFault t plan ≠ okF) : solF t plan = plFault t plan := by unfold solF; rw [if_neg h]
def c_L1_PlansMatchSpec : Cmd :=
  (.seq
   (.ops [
   .op (some 2) none (.box 192132 4 (.t 0)),
   .op (some 4) none (.mov (.c (.bool false)))])
   (.cut
   (.seq
   (.ops [
   .op (some 10) none (.load true 4 (.t 2)),
   .op (some 11) none (.mov (.t 1)),
   .op (some 12) none (.call .f (.c (.fn 8 [])) [.t 10, .t 11]),
   .op (some 5) none (.alloc 192322 (.agg [.int .i64 (0), .int .i64 (0)])),
   .op none none (.store 2 (.t 5) (.t 12))])
   (.cut
   (.seq
   (.ops [
   .op (some 14) none (.load true 4 (.t 2)),
   .op (some 15) none (.mov (.t 1)),
   .op (some 16) none (.call .f (.c (.fn 9 [])) [.t 14, .t 15]),
   .op (some 13) none (.mov (.t 16)),
   .op (some 17) none (.extract (.t 13) 0),
   .op (some 18) none (.extract (.t 13) 1),
   .op (some 7) none (.alloc 192450 (.agg [.int .i64 (0), .int .i64 (0)])),
   .op (some 6) none (.mov (.t 17)),
   .op none none (.store 2 (.t 7) (.t 18))])
   (.cut
   (.seq
   (.seq
   (.ops [
   .op (some 19) none (.call .f (.c (.fn 10 [])) []),
   .op (some 20) none (.not (.t 19)),
   .op (some 21) none (.mov (.t 20)),
   .op (some 22) (some (21, false)) (.load true 2 (.t 7)),
   .op (some 23) (some (21, false)) (.load true 2 (.t 5)),
   .op (some 24) (some (21, false)) (.bin .neq true [.i, .i] (.t 22) (.t 23)),
   .op (some 25) none (.pick (.t 21) (.c (.bool true)) (.t 24)),
   .op (some 26) none (.mov (.t 25)),
   .op (some 27) (some (26, false)) (.faddr 0 (.t 5)),
   .op (some 28) (some (26, false)) (.load false 1 (.t 27)),
   .op (some 29) (some (26, false)) (.bin .neq false [.i] (.t 28) (.c (.int .i64 (0)))),
   .op (some 30) (some (26, false)) (.mov (.t 29)),
   .op (some 31) (some (30, true)) (.mov (.t 6)),
   .op (some 32) (some (30, true)) (.bin .neq false [.i] (.t 31) (.c (.int .i64 (0)))),
   .op (some 33) (some (26, false)) (.pick (.t 30) (.t 32) (.c (.bool false))),
   .op (some 34) none (.pick (.t 26) (.c (.bool true)) (.t 33)),
   .op (some 35) none (.mov (.t 34)),
   .op (some 36) (some (35, false)) (.faddr 0 (.t 5)),
   .op (some 37) (some (35, false)) (.load false 1 (.t 36)),
   .op (some 38) (some (35, false)) (.bin .eql false [.i] (.t 37) (.c (.int .i64 (0)))),
   .op (some 39) (some (35, false)) (.mov (.t 38)),
   .op (some 40) (some (39, true)) (.mov (.t 6)),
   .op (some 41) (some (39, true)) (.load true 4 (.t 2)),
   .op (some 42) (some (39, true)) (.mov (.t 1)),
   .op (some 43) (some (39, true)) (.call .f (.c (.fn 11 [])) [.t 41, .t 42]),
   .op (some 44) (some (39, true)) (.bin .neq false [.i] (.t 40) (.t 43)),
   .op (some 45) (some (35, false)) (.pick (.t 39) (.t 44) (.c (.bool false))),
   .op (some 46) none (.pick (.t 35) (.c (.bool true)) (.t 45))])
   (.cut
   (.cond (.t 46)
   (.seq
   (.ops [
   .op (some 4) none (.mov (.c (.bool false)))])
   .ret)
   .skip)))
   (.cut
   (.seq
   (.ops [
   .op (some 47) none (.load true 4 (.t 2)),
   .op (some 48) none (.mov (.t 1)),
   .op (some 49) none (.call .f (.c (.fn 12 [])) [.t 47, .t 48]),
   .op none none (.store 2 (.t 5) (.t 49))])
   (.cut
   (.seq
   (.ops [
   .op (some 51) none (.load true 4 (.t 2)),
   .op (some 52) none (.mov (.t 1)),
   .op (some 53) none (.call .f (.c (.fn 13 [])) [.t 51, .t 52]),
   .op (some 50) none (.mov (.t 53)),
   .op (some 54) none (.extract (.t 50) 0),
   .op (some 55) none (.extract (.t 50) 1),
   .op (some 9) none (.alloc 192578 (.agg [.int .i64 (0), .int .i64 (0)])),
   .op (some 8) none (.mov (.t 54)),
   .op none none (.store 2 (.t 9) (.t 55))])
   (.cut
   (.seq
   (.ops [
   .op (some 56) none (.load true 2 (.t 9)),
   .op (some 57) none (.load true 2 (.t 5)),
   .op (some 58) none (.bin .eql true [.i, .i] (.t 56) (.t 57)),
   .op (some 59) none (.mov (.t 58)),
   .op (some 60) (some (59, true)) (.faddr 0 (.t 5)),
   .op (some 61) (some (59, true)) (.load false 1 (.t 60)),
   .op (some 62) (some (59, true)) (.bin .neq false [.i] (.t 61) (.c (.int .i64 (0)))),
   .op (some 63) (some (59, true)) (.mov (.t 62)),
   .op (some 64) (some (63, true)) (.mov (.t 8)),
   .op (some 65) (some (63, true)) (.len false (.t 64)),
   .op (some 66) (some (63, true)) (.bin .eql false [.i] (.t 65) (.c (.int .i64 (0)))),
   .op (some 67) (some (59, true)) (.pick (.t 63) (.t 66) (.c (.bool false))),
   .op (some 68) (some (59, true)) (.mov (.t 67)),
   .op (some 69) (some (68, false)) (.faddr 0 (.t 5)),
   .op (some 70) (some (68, false)) (.load false 1 (.t 69)),
   .op (some 71) (some (68, false)) (.bin .eql false [.i] (.t 70) (.c (.int .i64 (0)))),
   .op (some 72) (some (68, false)) (.mov (.t 71)),
   .op (some 73) (some (72, true)) (.mov (.t 8)),
   .op (some 74) (some (72, true)) (.load true 4 (.t 2)),
   .op (some 75) (some (72, true)) (.mov (.t 1)),
   .op (some 76) (some (72, true)) (.call .f (.c (.fn 15 [])) [.t 74, .t 75, .c (.int .i64 (0))]),
   .op (some 77) (some (72, true)) (.call .f (.c (.fn 14 [])) [.t 73, .t 76]),
   .op (some 78) (some (68, false)) (.pick (.t 72) (.t 77) (.c (.bool false))),
   .op (some 79) (some (59, true)) (.pick (.t 68) (.c (.bool true)) (.t 78)),
   .op (some 80) none (.pick (.t 59) (.t 79) (.c (.bool false))),
   .op (some 4) none (.mov (.t 80))])
   .ret)))))))))))))
def r_L1_PlansMatchSpec : List RVar := [.tmp 4]
def n_L1_PlansMatchSpec : Nat := 81
theorem k_L1_PlansMatchSpec : chkFn Go.Proofs.Try.prog 3 n_L1_PlansMatchSpec r_L1_PlansMatchSpec c_L1_PlansMatchSpec = true := by kernel_rfl
theorem f_L1_PlansMatchSpec (t : STask) (ho : SkOk t) (plan : List Int) (hl : plan.length ≤ 140737488355328) : Fc Go.Proofs.Try.prog 3 [skV t, .sl .p (plan.map i64V)] (.bool true) := by
  have hT := f_L1_shortens
  have hF := f_R1_PlanFault t ho plan hl
  have hS := f_R2_SolutionFault t ho plan hl
  by_cases hb : plFault t plan = okF
  · obtain ⟨hv, h60, hr, _⟩ := plFault_ok hb
    have h1 := f_plans_Failure_ok t ho plan hb
    have h2 := f_R2_FailureOf t hv plan h60 hr
    rw [hb] at hF
    generalize failI t plan = n at *
    by_cases hs : solF t plan = okF
    · obtain ⟨_, hw⟩ := solF_ok hs
      have h3 := f_plans_Reduce_ok t ho plan hs
      have h4 := f_R2_ReducedFrom t hv _ plan 0 (Nat.le_refl _) (by omega) h60 hr hw
      change Fc _ _ [_, _, .int .i64 0] _ at h4
      have h5 := f_Ints_same (redL t plan 0) (by have := (redL_sub t plan 0).length_le; omega)
      rw [hs] at hS
      refine Fn.step mixed k_L1_PlansMatchSpec ?_
      repeat' (first | refine i_len rfl ?_ | refine i_s rfl ?_ | refine i_lenm rfl rfl rfl ?_ | refine c_seq ?_ | refine c_cut0 ?_ | refine c_ops ?_ | refine i_nil ?_ | refine e_seq ?_ | refine e_block ?_ | refine c_block ?_ | refine c_skip ?_ | refine c_ret ?_ | refine c_exit ?_ | refine e_exit rfl ?_ | refine i_s0 rfl ?_ | refine c_leaf ?_ | refine i_gt rfl ?_ | refine i_gf rfl ?_ | refine i_gd rfl ?_ | refine c_t rfl ?_ | refine c_f rfl ?_ | refine i_conv rfl (by simp only [InR, List.length_map]; omega) ?_ | refine i_add rfl rfl (by simp only [InR, List.length_map]; omega) ?_ | refine i_sub rfl rfl (by simp only [InR, List.length_map]; omega) ?_ | refine i_ixm rfl rfl (by assumption) ?_ | refine i_iai rfl rfl (by omega) (by assumption) rfl ?_ | refine i_iam rfl rfl (by assumption) rfl ?_ | refine i_tk rfl rfl (by omega) ?_ | refine i_stb rfl ?_ | refine i_alloc rfl ?_ | refine i_box rfl rfl ?_ | refine i_nv rfl ?_ | refine c_node ?_ ?_ | refine i_g rfl (fun h => ?_) (fun h => ?_) | refine c_cond rfl (fun h => ?_) (fun h => ?_) | refine i_f rfl rfl (hT) rfl ?_ | refine i_f rfl rfl (hF) rfl ?_ | refine i_f rfl rfl (hS) rfl ?_ | refine i_f rfl rfl (h1) rfl ?_ | refine i_f rfl rfl (h2) rfl ?_ | refine i_f rfl rfl (h3) rfl ?_ | refine i_f rfl rfl (h4) rfl ?_ | refine i_f rfl rfl (h5) rfl ?_)
      all_goals first
        | (exfalso; clear hT hF hS h1 h2 h3 h4 h5 ho hv hr; simp at *; done)
        | (refine e_ret ⟨rfl, _, rfl, congrArg V.bool ?_⟩; first | rfl | (simp; done))
    · have h3 := f_plans_Reduce_bad t ho plan hl hs
      have hne : (solF t plan).code ≠ 0 := fun h => hs ((solF_code _ _).1 h)
      clear hs
      generalize solF t plan = SF at *
      refine Fn.step mixed k_L1_PlansMatchSpec ?_
      repeat' (first | refine i_len rfl ?_ | refine i_s rfl ?_ | refine i_lenm rfl rfl rfl ?_ | refine c_seq ?_ | refine c_cut0 ?_ | refine c_ops ?_ | refine i_nil ?_ | refine e_seq ?_ | refine e_block ?_ | refine c_block ?_ | refine c_skip ?_ | refine c_ret ?_ | refine c_exit ?_ | refine e_exit rfl ?_ | refine i_s0 rfl ?_ | refine c_leaf ?_ | refine i_gt rfl ?_ | refine i_gf rfl ?_ | refine i_gd rfl ?_ | refine c_t rfl ?_ | refine c_f rfl ?_ | refine i_conv rfl (by simp only [InR, List.length_map]; omega) ?_ | refine i_add rfl rfl (by simp only [InR, List.length_map]; omega) ?_ | refine i_sub rfl rfl (by simp only [InR, List.length_map]; omega) ?_ | refine i_ixm rfl rfl (by assumption) ?_ | refine i_iai rfl rfl (by omega) (by assumption) rfl ?_ | refine i_iam rfl rfl (by assumption) rfl ?_ | refine i_tk rfl rfl (by omega) ?_ | refine i_stb rfl ?_ | refine i_alloc rfl ?_ | refine i_box rfl rfl ?_ | refine i_nv rfl ?_ | refine c_node ?_ ?_ | refine i_g rfl (fun h => ?_) (fun h => ?_) | refine c_cond rfl (fun h => ?_) (fun h => ?_) | refine i_f rfl rfl (hT) rfl ?_ | refine i_f rfl rfl (hF) rfl ?_ | refine i_f rfl rfl (hS) rfl ?_ | refine i_f rfl rfl (h1) rfl ?_ | refine i_f rfl rfl (h2) rfl ?_ | refine i_f rfl rfl (h3) rfl ?_)
      all_goals first
        | (exfalso; clear hT hF hS h1 h2 h3 ho hv hr; simp at *; done)
        | (exfalso; clear hT hF hS h1 h2 h3 ho hv hr; simp at *; omega)
        | (refine e_ret ⟨rfl, _, rfl, congrArg V.bool ?_⟩; first | rfl | (simp; done))
  · have h1 := f_plans_Failure_bad t ho plan hl hb
    have hs : solF t plan ≠ okF := by rw [solF_pl hb]; exact hb
    have h3 := f_plans_Reduce_bad t ho plan hl hs
    rw [solF_pl hb] at hS h3
    have hne : (plFault t plan).code ≠ 0 := fun h => hb ((plFault_iff _ _).1 h)
    clear hs hb
    generalize plFault t plan = SF at *
    refine Fn.step mixed k_L1_PlansMatchSpec ?_
    repeat' (first | refine i_len rfl ?_ | refine i_s rfl ?_ | refine i_lenm rfl rfl rfl ?_ | refine c_seq ?_ | refine c_cut0 ?_ | refine c_ops ?_ | refine i_nil ?_ | refine e_seq ?_ | refine e_block ?_ | refine c_block ?_ | refine c_skip ?_ | refine c_ret ?_ | refine c_exit ?_ | refine e_exit rfl ?_ | refine i_s0 rfl ?_ | refine c_leaf ?_ | refine i_gt rfl ?_ | refine i_gf rfl ?_ | refine i_gd rfl ?_ | refine c_t rfl ?_ | refine c_f rfl ?_ | refine i_conv rfl (by simp only [InR, List.length_map]; omega) ?_ | refine i_add rfl rfl (by simp only [InR, List.length_map]; omega) ?_ | refine i_sub rfl rfl (by simp only [InR, List.length_map]; omega) ?_ | refine i_ixm rfl rfl (by assumption) ?_ | refine i_iai rfl rfl (by omega) (by assumption) rfl ?_ | refine i_iam rfl rfl (by assumption) rfl ?_ | refine i_tk rfl rfl (by omega) ?_ | refine i_stb rfl ?_ | refine i_alloc rfl ?_ | refine i_box rfl rfl ?_ | refine i_nv rfl ?_ | refine c_node ?_ ?_ | refine i_g rfl (fun h => ?_) (fun h => ?_) | refine c_cond rfl (fun h => ?_) (fun h => ?_) | refine i_f rfl rfl (hT) rfl ?_ | refine i_f rfl rfl (hF) rfl ?_ | refine i_f rfl rfl (hS) rfl ?_ | refine i_f rfl rfl (h1) rfl ?_ | refine i_f rfl rfl (h3) rfl ?_)
    all_goals first
      | (exfalso; clear hT hF hS h1 h3 ho; simp at *; done)
      | (exfalso; clear hT hF hS h1 h3 ho; simp at *; omega)
      | (refine e_ret ⟨rfl, _, rfl, congrArg V.bool ?_⟩; first | rfl | (simp; done))
end Hm
end
