/- The laws of reduced plans and of failures answer true. -/
import Derived.Test.YtnkfkddgbiijgaaPlB
section
/- The laws of reduced plans and of failures answer true. -/
namespace Hm
open Go
set_option maxRecDepth 100000
set_option maxHeartbeats 4000000
set_option linter.unusedSimpArgs false
set_option linter.unusedVariables false
theorem steps_sub {n : Nat} {plan l : List Int} (h : stepsF n plan = okF) (hs : l.Sublist plan) : stepsF n l = okF := by
  obtain ⟨h1, h2⟩ := stepsF_ok h
  unfold stepsF
  rw [if_neg (by have := hs.length_le; omega), if_neg]
  rw [Bool.not_eq_true, List.any_eq_false]
  intro x hx
  have := h2 x (hs.subset hx)
  simp [badStep]
  omega
theorem plF_sub {t : STask} {plan l : List Int} (h : plFault t plan = okF) (hs : l.Sublist plan) : plFault t l = okF := by
  unfold plFault at h ⊢
  split at h
  · rename_i h1
    rw [if_pos h1]
    exact steps_sub h hs
  · rename_i h1; exact absurd h h1
theorem solF_of {t : STask} {l : List Int} (h : plFault t l = okF) (hw : worksB t t.init l = true) : solF t l = okF := by unfold solF; rw [if_pos h, if_pos hw]
def c_L1_PlansReducedAreSolutions : Cmd :=
  (.seq
   (.ops [
   .op (some 2) none (.box 384132 4 (.t 0)),
   .op (some 4) none (.mov (.c (.bool false)))])
   (.cut
   (.seq
   (.ops [
   .op (some 16) none (.load true 4 (.t 2)),
   .op (some 17) none (.mov (.t 1)),
   .op (some 18) none (.call .f (.c (.fn 13 [])) [.t 16, .t 17]),
   .op (some 15) none (.mov (.t 18)),
   .op (some 19) none (.extract (.t 15) 0),
   .op (some 20) none (.extract (.t 15) 1),
   .op (some 6) none (.alloc 384386 (.agg [.int .i64 (0), .int .i64 (0)])),
   .op (some 5) none (.mov (.t 19)),
   .op none none (.store 2 (.t 6) (.t 20))])
   (.cut
   (.seq
   (.seq
   (.ops [
   .op (some 21) none (.call .f (.c (.fn 10 [])) []),
   .op (some 22) none (.not (.t 21)),
   .op (some 23) none (.mov (.t 22)),
   .op (some 24) (some (23, false)) (.faddr 0 (.t 6)),
   .op (some 25) (some (23, false)) (.load false 1 (.t 24)),
   .op (some 26) (some (23, false)) (.bin .neq false [.i] (.t 25) (.c (.int .i64 (0)))),
   .op (some 27) none (.pick (.t 23) (.c (.bool true)) (.t 26))])
   (.cut
   (.cond (.t 27)
   (.seq
   (.ops [
   .op (some 28) none (.call .f (.c (.fn 10 [])) []),
   .op (some 29) none (.mov (.t 28)),
   .op (some 30) (some (29, true)) (.mov (.t 5)),
   .op (some 31) (some (29, true)) (.len false (.t 30)),
   .op (some 32) (some (29, true)) (.bin .eql false [.i] (.t 31) (.c (.int .i64 (0)))),
   .op (some 33) none (.pick (.t 29) (.t 32) (.c (.bool false))),
   .op (some 4) none (.mov (.t 33))])
   .ret)
   .skip)))
   (.cut
   (.seq
   (.ops [
   .op (some 35) none (.load true 4 (.t 2)),
   .op (some 36) none (.mov (.t 5)),
   .op (some 37) none (.call .f (.c (.fn 20 [])) [.t 35, .t 36]),
   .op (some 34) none (.mov (.t 37)),
   .op (some 38) none (.extract (.t 34) 0),
   .op (some 39) none (.extract (.t 34) 1),
   .op (some 8) none (.alloc 384514 (.agg [.int .i64 (0), .int .i64 (0)])),
   .op (some 7) none (.mov (.t 38)),
   .op none none (.store 2 (.t 8) (.t 39))])
   (.cut
   (.seq
   (.ops [
   .op (some 41) none (.load true 4 (.t 2)),
   .op (some 42) none (.mov (.t 5)),
   .op (some 43) none (.call .f (.c (.fn 22 [])) [.t 41, .t 42]),
   .op (some 40) none (.mov (.t 43)),
   .op (some 44) none (.extract (.t 40) 0),
   .op (some 45) none (.extract (.t 40) 1),
   .op (some 10) none (.alloc 384642 (.agg [.int .i64 (0), .int .i64 (0)])),
   .op (some 9) none (.mov (.t 44)),
   .op none none (.store 2 (.t 10) (.t 45))])
   (.cut
   (.seq
   (.ops [
   .op (some 47) none (.load true 4 (.t 2)),
   .op (some 48) none (.mov (.t 1)),
   .op (some 49) none (.call .f (.c (.fn 22 [])) [.t 47, .t 48]),
   .op (some 46) none (.mov (.t 49)),
   .op (some 50) none (.extract (.t 46) 0),
   .op (some 51) none (.extract (.t 46) 1),
   .op (some 12) none (.alloc 384770 (.agg [.int .i64 (0), .int .i64 (0)])),
   .op (some 11) none (.mov (.t 50)),
   .op none none (.store 2 (.t 12) (.t 51))])
   (.cut
   (.seq
   (.ops [
   .op (some 53) none (.load true 4 (.t 2)),
   .op (some 54) none (.mov (.t 5)),
   .op (some 55) none (.call .f (.c (.fn 13 [])) [.t 53, .t 54]),
   .op (some 52) none (.mov (.t 55)),
   .op (some 56) none (.extract (.t 52) 0),
   .op (some 57) none (.extract (.t 52) 1),
   .op (some 14) none (.alloc 384898 (.agg [.int .i64 (0), .int .i64 (0)])),
   .op (some 13) none (.mov (.t 56)),
   .op none none (.store 2 (.t 14) (.t 57))])
   (.cut
   (.seq
   (.ops [
   .op (some 58) none (.faddr 0 (.t 8)),
   .op (some 59) none (.load false 1 (.t 58)),
   .op (some 60) none (.bin .eql false [.i] (.t 59) (.c (.int .i64 (0)))),
   .op (some 61) none (.mov (.t 60)),
   .op (some 62) (some (61, true)) (.faddr 0 (.t 10)),
   .op (some 63) (some (61, true)) (.load false 1 (.t 62)),
   .op (some 64) (some (61, true)) (.bin .eql false [.i] (.t 63) (.c (.int .i64 (0)))),
   .op (some 65) none (.pick (.t 61) (.t 64) (.c (.bool false))),
   .op (some 66) none (.mov (.t 65)),
   .op (some 67) (some (66, true)) (.faddr 0 (.t 12)),
   .op (some 68) (some (66, true)) (.load false 1 (.t 67)),
   .op (some 69) (some (66, true)) (.bin .eql false [.i] (.t 68) (.c (.int .i64 (0)))),
   .op (some 70) none (.pick (.t 66) (.t 69) (.c (.bool false))),
   .op (some 71) none (.mov (.t 70)),
   .op (some 72) (some (71, true)) (.faddr 0 (.t 14)),
   .op (some 73) (some (71, true)) (.load false 1 (.t 72)),
   .op (some 74) (some (71, true)) (.bin .eql false [.i] (.t 73) (.c (.int .i64 (0)))),
   .op (some 75) none (.pick (.t 71) (.t 74) (.c (.bool false))),
   .op (some 76) none (.mov (.t 75)),
   .op (some 77) (some (76, true)) (.mov (.t 7)),
   .op (some 78) none (.pick (.t 76) (.t 77) (.c (.bool false))),
   .op (some 79) none (.mov (.t 78)),
   .op (some 80) (some (79, true)) (.mov (.t 9)),
   .op (some 81) (some (79, true)) (.mov (.t 11)),
   .op (some 82) (some (79, true)) (.bin .leq false [] (.t 80) (.t 81)),
   .op (some 83) none (.pick (.t 79) (.t 82) (.c (.bool false))),
   .op (some 84) none (.mov (.t 83)),
   .op (some 85) (some (84, true)) (.mov (.t 5)),
   .op (some 86) (some (84, true)) (.mov (.t 1)),
   .op (some 87) (some (84, true)) (.call .f (.c (.fn 23 [])) [.t 85, .t 86]),
   .op (some 88) none (.pick (.t 84) (.t 87) (.c (.bool false))),
   .op (some 89) none (.mov (.t 88)),
   .op (some 90) (some (89, true)) (.mov (.t 13)),
   .op (some 91) (some (89, true)) (.mov (.t 5)),
   .op (some 92) (some (89, true)) (.call .f (.c (.fn 23 [])) [.t 90, .t 91]),
   .op (some 93) none (.pick (.t 89) (.t 92) (.c (.bool false))),
   .op (some 4) none (.mov (.t 93))])
   .ret)))))))))))))))
def r_L1_PlansReducedAreSolutions : List RVar := [.tmp 4]
def n_L1_PlansReducedAreSolutions : Nat := 94
theorem k_L1_PlansReducedAreSolutions : chkFn Go.Proofs.Try.prog 6 n_L1_PlansReducedAreSolutions r_L1_PlansReducedAreSolutions c_L1_PlansReducedAreSolutions = true := by kernel_rfl
theorem f_L1_PlansReducedAreSolutions (t : STask) (ho : SkOk t) (plan : List Int) (hl : plan.length ≤ 140737488355328) : Fc Go.Proofs.Try.prog 6 [skV t, .sl .p (plan.map i64V)] (.bool true) := by
  have hT := f_L1_shortens
  by_cases hs : solF t plan = okF
  · obtain ⟨hb, hw⟩ := solF_ok hs
    obtain ⟨hv, h60, hr, _⟩ := plFault_ok hb
    have h1 := f_plans_Reduce_ok t ho plan hs
    have hsub := redL_sub t plan 0
    have hwl := redL_works t plan 0 hw
    have hpl := plF_sub hb hsub
    have hsl := solF_of hpl hwl
    have h2 := f_strips_Solves_ok t ho (redL t plan 0) hpl
    rw [hwl] at h2
    have h3 := f_strips_Cost_ok t ho (redL t plan 0) hpl
    have h4 := f_strips_Cost_ok t ho plan hb
    have h5 := f_plans_Reduce_ok t ho (redL t plan 0) hsl
    have hll := hsub.length_le
    have hsub2 := redL_sub t (redL t plan 0) 0
    have hll2 := hsub2.length_le
    have h6 := f_R2_Part (redL t plan 0) plan (by omega) (by omega) hsub
    have h7 := f_R2_Part (redL t (redL t plan 0) 0) (redL t plan 0) (by omega) (by omega) hsub2
    have hc := costS_sub hv hsub
    generalize costS t plan = cb at *
    generalize costS t (redL t plan 0) = ca at *
    generalize redL t (redL t plan 0) 0 = L2 at *
    generalize redL t plan 0 = L at *
    clear hs hb hw hv hr hsub hwl hpl hsl hsub2
    refine Fn.step mixed k_L1_PlansReducedAreSolutions ?_
    repeat' (first | refine i_len rfl ?_ | refine i_s rfl ?_ | refine i_lenm rfl rfl rfl ?_ | refine c_seq ?_ | refine c_cut0 ?_ | refine c_ops ?_ | refine i_nil ?_ | refine e_seq ?_ | refine e_block ?_ | refine c_block ?_ | refine c_skip ?_ | refine c_ret ?_ | refine c_exit ?_ | refine e_exit rfl ?_ | refine i_s0 rfl ?_ | refine c_leaf ?_ | refine i_gt rfl ?_ | refine i_gf rfl ?_ | refine i_gd rfl ?_ | refine c_t rfl ?_ | refine c_f rfl ?_ | refine i_conv rfl (by simp only [InR, List.length_map]; omega) ?_ | refine i_add rfl rfl (by simp only [InR, List.length_map]; omega) ?_ | refine i_sub rfl rfl (by simp only [InR, List.length_map]; omega) ?_ | refine i_ixm rfl rfl (by assumption) ?_ | refine i_iai rfl rfl (by omega) (by assumption) rfl ?_ | refine i_iam rfl rfl (by assumption) rfl ?_ | refine i_tk rfl rfl (by omega) ?_ | refine i_stb rfl ?_ | refine i_alloc rfl ?_ | refine i_box rfl rfl ?_ | refine i_nv rfl ?_ | refine c_node ?_ ?_ | refine i_g rfl (fun h => ?_) (fun h => ?_) | refine c_cond rfl (fun h => ?_) (fun h => ?_) | refine i_f rfl rfl (hT) rfl ?_ | refine i_f rfl rfl (h1) rfl ?_ | refine i_f rfl rfl (h2) rfl ?_ | refine i_f rfl rfl (h3) rfl ?_ | refine i_f rfl rfl (h4) rfl ?_ | refine i_f rfl rfl (h5) rfl ?_ | refine i_f rfl rfl (h6) rfl ?_ | refine i_f rfl rfl (h7) rfl ?_)
    all_goals first
      | (exfalso; clear hT h1 h2 h3 h4 h5 h6 h7 ho; simp at *; omega)
      | (refine e_ret ⟨rfl, _, rfl, congrArg V.bool ?_⟩; first | rfl | (simp; done))
  · have h1 := f_plans_Reduce_bad t ho plan hl hs
    have hne : (solF t plan).code ≠ 0 := fun h => hs ((solF_code _ _).1 h)
    clear hs
    generalize solF t plan = SF at *
    refine Fn.step mixed k_L1_PlansReducedAreSolutions ?_
    repeat' (first | refine i_len rfl ?_ | refine i_s rfl ?_ | refine i_lenm rfl rfl rfl ?_ | refine c_seq ?_ | refine c_cut0 ?_ | refine c_ops ?_ | refine i_nil ?_ | refine e_seq ?_ | refine e_block ?_ | refine c_block ?_ | refine c_skip ?_ | refine c_ret ?_ | refine c_exit ?_ | refine e_exit rfl ?_ | refine i_s0 rfl ?_ | refine c_leaf ?_ | refine i_gt rfl ?_ | refine i_gf rfl ?_ | refine i_gd rfl ?_ | refine c_t rfl ?_ | refine c_f rfl ?_ | refine i_conv rfl (by simp only [InR, List.length_map]; omega) ?_ | refine i_add rfl rfl (by simp only [InR, List.length_map]; omega) ?_ | refine i_sub rfl rfl (by simp only [InR, List.length_map]; omega) ?_ | refine i_ixm rfl rfl (by assumption) ?_ | refine i_iai rfl rfl (by omega) (by assumption) rfl ?_ | refine i_iam rfl rfl (by assumption) rfl ?_ | refine i_tk rfl rfl (by omega) ?_ | refine i_stb rfl ?_ | refine i_alloc rfl ?_ | refine i_box rfl rfl ?_ | refine i_nv rfl ?_ | refine c_node ?_ ?_ | refine i_g rfl (fun h => ?_) (fun h => ?_) | refine c_cond rfl (fun h => ?_) (fun h => ?_) | refine i_f rfl rfl (hT) rfl ?_ | refine i_f rfl rfl (h1) rfl ?_)
    all_goals first
      | (exfalso; clear hT h1 ho; simp at *; done)
      | (exfalso; clear hT h1 ho; simp at *; omega)
      | (refine e_ret ⟨rfl, _, rfl, congrArg V.bool ?_⟩; first | rfl | (simp; done))
end Hm
end
