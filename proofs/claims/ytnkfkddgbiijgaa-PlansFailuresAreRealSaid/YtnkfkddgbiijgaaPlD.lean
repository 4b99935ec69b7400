/- The law of failures answers true. -/
import Derived.Test.YtnkfkddgbiijgaaPlC2
section
/- The law of failures answers true. -/
namespace Hm
open Go
set_option maxRecDepth 100000
set_option maxHeartbeats 4000000
set_option linter.unusedSimpArgs false
set_option linter.unusedVariables false
def c_L1_PlansFailuresAreReal : Cmd :=
  (.seq
   (.ops [
   .op (some 2) none (.box 448132 4 (.t 0)),
   .op (some 4) none (.mov (.c (.bool false)))])
   (.cut
   (.seq
   (.ops [
   .op (some 14) none (.load true 4 (.t 2)),
   .op (some 15) none (.mov (.t 1)),
   .op (some 16) none (.call .f (.c (.fn 9 [])) [.t 14, .t 15]),
   .op (some 13) none (.mov (.t 16)),
   .op (some 17) none (.extract (.t 13) 0),
   .op (some 18) none (.extract (.t 13) 1),
   .op (some 6) none (.alloc 448386 (.agg [.int .i64 (0), .int .i64 (0)])),
   .op (some 5) none (.mov (.t 17)),
   .op none none (.store 2 (.t 6) (.t 18))])
   (.cut
   (.seq
   (.seq
   (.ops [
   .op (some 19) none (.call .f (.c (.fn 10 [])) []),
   .op (some 20) none (.not (.t 19)),
   .op (some 21) none (.mov (.t 20)),
   .op (some 22) (some (21, false)) (.faddr 0 (.t 6)),
   .op (some 23) (some (21, false)) (.load false 1 (.t 22)),
   .op (some 24) (some (21, false)) (.bin .neq false [.i] (.t 23) (.c (.int .i64 (0)))),
   .op (some 25) none (.pick (.t 21) (.c (.bool true)) (.t 24))])
   (.cut
   (.cond (.t 25)
   (.seq
   (.ops [
   .op (some 26) none (.call .f (.c (.fn 10 [])) []),
   .op (some 27) none (.mov (.t 26)),
   .op (some 28) (some (27, true)) (.mov (.t 5)),
   .op (some 29) (some (27, true)) (.bin .eql false [.i] (.t 28) (.c (.int .i64 (0)))),
   .op (some 30) none (.pick (.t 27) (.t 29) (.c (.bool false))),
   .op (some 4) none (.mov (.t 30))])
   .ret)
   .skip)))
   (.cut
   (.seq
   (.ops [
   .op (some 32) none (.load true 4 (.t 2)),
   .op (some 33) none (.mov (.t 1)),
   .op (some 34) none (.call .f (.c (.fn 20 [])) [.t 32, .t 33]),
   .op (some 31) none (.mov (.t 34)),
   .op (some 35) none (.extract (.t 31) 0),
   .op (some 36) none (.extract (.t 31) 1),
   .op (some 8) none (.alloc 448514 (.agg [.int .i64 (0), .int .i64 (0)])),
   .op (some 7) none (.mov (.t 35)),
   .op none none (.store 2 (.t 8) (.t 36))])
   (.cut
   (.seq
   (.seq
   (.ops [
   .op (some 37) none (.faddr 0 (.t 8)),
   .op (some 38) none (.load false 1 (.t 37)),
   .op (some 39) none (.bin .neq false [.i] (.t 38) (.c (.int .i64 (0)))),
   .op (some 40) none (.mov (.t 39)),
   .op (some 41) (some (40, false)) (.mov (.t 7)),
   .op (some 42) (some (40, false)) (.mov (.t 5)),
   .op (some 43) (some (40, false)) (.bin .eql false [.i] (.t 42) (.c (.int .i64 (-1)))),
   .op (some 44) (some (40, false)) (.bin .neq false [.b] (.t 41) (.t 43)),
   .op (some 45) none (.pick (.t 40) (.c (.bool true)) (.t 44)),
   .op (some 46) none (.mov (.t 45)),
   .op (some 47) (some (46, false)) (.mov (.t 5)),
   .op (some 48) (some (46, false)) (.mov (.t 1)),
   .op (some 49) (some (46, false)) (.len false (.t 48)),
   .op (some 50) (some (46, false)) (.call .f (.c (.fn 19 [])) [.t 47, .c (.int .i64 (-1)), .t 49]),
   .op (some 51) (some (46, false)) (.not (.t 50)),
   .op (some 52) none (.pick (.t 46) (.c (.bool true)) (.t 51))])
   (.cut
   (.cond (.t 52)
   (.seq
   (.ops [
   .op (some 4) none (.mov (.c (.bool false)))])
   .ret)
   .skip)))
   (.cut
   (.seq
   (.seq
   (.ops [
   .op (some 53) none (.mov (.t 5)),
   .op (some 54) none (.bin .lss false [] (.t 53) (.c (.int .i64 (0))))])
   (.cut
   (.cond (.t 54)
   (.seq
   (.ops [
   .op (some 4) none (.mov (.c (.bool true)))])
   .ret)
   .skip)))
   (.cut
   (.seq
   (.opsT (.node 0 10 (.node 1 10 (.node 2 10 (.node 5 10 (.node 6 10 (.leaf [0, 1, 2, 3, 4, 5, 6, 7, 8, 9, 10, 11, 12]) (.leaf [0, 1, 2, 3, 4, 5, 10, 6, 7, 8, 9, 11, 12])) (.leaf [0, 1, 2, 3, 4, 10, 5, 6, 7, 8, 9, 11, 12])) (.node 5 10 (.leaf [0, 1, 3, 4, 5, 10, 2, 6, 7, 8, 9, 11, 12]) (.leaf [0, 1, 3, 4, 10, 2, 5, 6, 7, 8, 9, 11, 12]))) (.node 5 10 (.leaf [0, 3, 4, 5, 10, 1, 2, 6, 7, 8, 9, 11, 12]) (.leaf [0, 3, 4, 10, 1, 2, 5, 6, 7, 8, 9, 11, 12]))) (.node 1 10 (.node 2 10 (.node 5 10 (.leaf [1, 2, 3, 4, 5, 10, 0, 6, 7, 8, 9, 11, 12]) (.leaf [1, 2, 3, 4, 10, 0, 5, 6, 7, 8, 9, 11, 12])) (.node 5 10 (.leaf [1, 3, 4, 5, 10, 0, 2, 6, 7, 8, 9, 11, 12]) (.leaf [1, 3, 4, 10, 0, 2, 5, 6, 7, 8, 9, 11, 12]))) (.node 5 10 (.leaf [3, 4, 5, 10, 0, 1, 2, 6, 7, 8, 9, 11, 12]) (.leaf [3, 4, 10, 0, 1, 2, 5, 6, 7, 8, 9, 11, 12])))) [
   .op (some 56) none (.load true 4 (.t 2)),
   .op (some 57) none (.faddr 1 (.t 2)),
   .op (some 58) none (.load false 1 (.t 57)),
   .op (some 59) none (.mov (.t 1)),
   .op (some 60) none (.mov (.t 5)),
   .op (some 61) none (.slice false 1 (.t 59) none (some (.t 60))),
   .op (some 62) none (.call .f (.c (.fn 24 [])) [.t 56, .t 58, .t 61]),
   .op (some 55) none (.mov (.t 62)),
   .op (some 63) none (.extract (.t 55) 0),
   .op (some 64) none (.extract (.t 55) 1),
   .op (some 10) none (.alloc 448642 (.agg [.int .i64 (0), .int .i64 (0)])),
   .op (some 9) none (.mov (.t 63)),
   .op none none (.store 2 (.t 10) (.t 64))])
   (.cut
   (.seq
   (.ops [
   .op (some 66) none (.load true 4 (.t 2)),
   .op (some 67) none (.faddr 1 (.t 2)),
   .op (some 68) none (.load false 1 (.t 67)),
   .op (some 69) none (.mov (.t 1)),
   .op (some 70) none (.call .f (.c (.fn 24 [])) [.t 66, .t 68, .t 69]),
   .op (some 65) none (.mov (.t 70)),
   .op (some 71) none (.extract (.t 65) 0),
   .op (some 72) none (.extract (.t 65) 1),
   .op (some 12) none (.alloc 448770 (.agg [.int .i64 (0), .int .i64 (0)])),
   .op (some 11) none (.mov (.t 71)),
   .op none none (.store 2 (.t 12) (.t 72))])
   (.cut
   (.seq
   (.ops [
   .op (some 73) none (.faddr 0 (.t 10)),
   .op (some 74) none (.load false 1 (.t 73)),
   .op (some 75) none (.bin .eql false [.i] (.t 74) (.c (.int .i64 (0)))),
   .op (some 76) none (.mov (.t 75)),
   .op (some 77) (some (76, true)) (.faddr 0 (.t 12)),
   .op (some 78) (some (76, true)) (.load false 1 (.t 77)),
   .op (some 79) (some (76, true)) (.bin .eql false [.i] (.t 78) (.c (.int .i64 (0)))),
   .op (some 80) (some (76, true)) (.mov (.t 5)),
   .op (some 81) (some (76, true)) (.mov (.t 1)),
   .op (some 82) (some (76, true)) (.len false (.t 81)),
   .op (some 83) (some (76, true)) (.bin .eql false [.i] (.t 80) (.t 82)),
   .op (some 84) (some (76, true)) (.bin .eql false [.b] (.t 79) (.t 83)),
   .op (some 85) none (.pick (.t 76) (.t 84) (.c (.bool false))),
   .op (some 4) none (.mov (.t 85))])
   .ret)))))))))))))))))
def r_L1_PlansFailuresAreReal : List RVar := [.tmp 4]
def n_L1_PlansFailuresAreReal : Nat := 86
theorem k_L1_PlansFailuresAreReal : chkFn Go.Proofs.Try.prog 7 n_L1_PlansFailuresAreReal r_L1_PlansFailuresAreReal c_L1_PlansFailuresAreReal = true := by kernel_rfl
theorem f_L1_PlansFailuresAreReal (t : STask) (ho : SkOk t) (plan : List Int) (hl : plan.length ≤ 140737488355328) : Fc Go.Proofs.Try.prog 7 [skV t, .sl .p (plan.map i64V)] (.bool true) := by
  have hT := f_L1_shortens
  by_cases hb : plFault t plan = okF
  · obtain ⟨hv, h60, hr, hsf⟩ := plFault_ok hb
    have h1 := f_plans_Failure_ok t ho plan hb
    have h2 := f_strips_Solves_ok t ho plan hb
    have hst := stFault_of hv hv.init
    have hsp : stepsF t.ops.length plan = okF := by unfold plFault at hb; rw [if_pos hsf] at hb; exact hb
    have hil := set_le hv hv.init
    have hle := run_len_le t plan t.init
    have heq := run_len_eq t plan t.init
    have hat := run_at t plan t.init
    have pre : ∀ k, k ≤ (runT t t.init plan).length → playF t t.init (plan.take k) = okF := fun k hk => by
      obtain ⟨e, he⟩ := get_some (l := t.init :: runT t t.init plan) (k := k) (by simp; omega)
      rw [hat k (by omega)] at he
      unfold playF
      rw [if_pos hst, if_pos (steps_sub hsp (List.take_sublist _ _)), if_pos (run_all he)]
    by_cases hlt : (runT t t.init plan).length < plan.length
    · have hf : failI t plan = ((runT t t.init plan).length : Int) := by unfold failI; rw [if_pos hlt]
      have hw : worksB t t.init plan = false := by
        unfold worksB
        cases he : endS t t.init plan with
        | none => rfl
        | some e => have := run_all he; omega
      have hp2 : playF t t.init plan = ⟨11, (runT t t.init plan).length⟩ := by
        unfold playF
        rw [if_pos hst, if_pos hsp, if_neg (by omega)]
      have hp1 := pre _ (Nat.le_refl _)
      have h3 := f_strips_Play t ho t.init (by omega) plan (by omega)
      rw [hp2] at h3
      rw [hf] at h1
      rw [hw] at h2
      clear hf hw hat heq pre
      generalize (runT t t.init plan).length = k at *
      have h4 := f_strips_Play t ho t.init (by omega) (plan.take k) (by simp; omega)
      rw [hp1] at h4
      have h5 := f_R1_In k (-1) plan.length
      rw [show (decide ((-1 : Int) ≤ k) && decide ((k : Int) ≤ plan.length)) = true from by simp <;> omega] at h5
      generalize playL t t.init plan = Y at *
      generalize playL t t.init (plan.take k) = X at *
      have hk1 : ¬ (k : Int) = -1 := by omega
      have hk2 : ¬ k = plan.length := by omega
      have hkl : k ≤ plan.length := by omega
      clear hb hv hr hsf hst hsp hp1 hp2
      refine Fn.step mixed k_L1_PlansFailuresAreReal ?_
      repeat' (first | refine i_len rfl ?_ | refine i_s rfl ?_ | refine i_lenm rfl rfl rfl ?_ | refine c_seq ?_ | refine c_cut0 ?_ | refine c_ops ?_ | refine i_nil ?_ | refine e_seq ?_ | refine e_block ?_ | refine c_block ?_ | refine c_skip ?_ | refine c_ret ?_ | refine c_exit ?_ | refine e_exit rfl ?_ | refine i_s0 rfl ?_ | refine c_leaf ?_ | refine i_gt rfl ?_ | refine i_gf rfl ?_ | refine i_gd rfl ?_ | refine c_t rfl ?_ | refine c_f rfl ?_ | refine i_conv rfl (by simp only [InR, List.length_map]; omega) ?_ | refine i_add rfl rfl (by simp only [InR, List.length_map]; omega) ?_ | refine i_sub rfl rfl (by simp only [InR, List.length_map]; omega) ?_ | refine i_ixm rfl rfl (by assumption) ?_ | refine i_iai rfl rfl (by omega) (by assumption) rfl ?_ | refine i_iam rfl rfl (by assumption) rfl ?_ | refine i_tk rfl rfl (by omega) ?_ | refine i_stb rfl ?_ | refine i_alloc rfl ?_ | refine i_box rfl rfl ?_ | refine i_nv rfl ?_ | refine c_node ?_ ?_ | refine i_g rfl (fun h => ?_) (fun h => ?_) | refine c_cond rfl (fun h => ?_) (fun h => ?_) | refine i_f rfl rfl (hT) rfl ?_ | refine i_f rfl rfl (h1) rfl ?_ | refine i_f rfl rfl (h2) rfl ?_ | refine i_f rfl rfl (h3) rfl ?_ | refine i_f rfl rfl (h4) rfl ?_ | refine i_f rfl rfl (h5) rfl ?_)
      all_goals first
        | (exfalso; clear hT h1 h2 h3 h4 h5 ho; simp at *; omega)
        | (refine e_ret ⟨rfl, _, rfl, congrArg V.bool ?_⟩; first | rfl | (simp [okF]; done) | (simp [okF]; omega))
    · have hll : (runT t t.init plan).length = plan.length := by omega
      cases hw : worksB t t.init plan with
      | true =>
        have hf : failI t plan = -1 := by unfold failI; rw [if_neg hlt, hw, if_pos rfl]
        rw [hf] at h1
        rw [hw] at h2
        have h5 := f_R1_In (-1) (-1) plan.length
        rw [show (decide ((-1 : Int) ≤ -1) && decide ((-1 : Int) ≤ plan.length)) = true from by simp <;> omega] at h5
        clear hb hv hr hsf hst hsp hf hw hat heq pre
        refine Fn.step mixed k_L1_PlansFailuresAreReal ?_
        repeat' (first | refine i_len rfl ?_ | refine i_s rfl ?_ | refine i_lenm rfl rfl rfl ?_ | refine c_seq ?_ | refine c_cut0 ?_ | refine c_ops ?_ | refine i_nil ?_ | refine e_seq ?_ | refine e_block ?_ | refine c_block ?_ | refine c_skip ?_ | refine c_ret ?_ | refine c_exit ?_ | refine e_exit rfl ?_ | refine i_s0 rfl ?_ | refine c_leaf ?_ | refine i_gt rfl ?_ | refine i_gf rfl ?_ | refine i_gd rfl ?_ | refine c_t rfl ?_ | refine c_f rfl ?_ | refine i_conv rfl (by simp only [InR, List.length_map]; omega) ?_ | refine i_add rfl rfl (by simp only [InR, List.length_map]; omega) ?_ | refine i_sub rfl rfl (by simp only [InR, List.length_map]; omega) ?_ | refine i_ixm rfl rfl (by assumption) ?_ | refine i_iai rfl rfl (by omega) (by assumption) rfl ?_ | refine i_iam rfl rfl (by assumption) rfl ?_ | refine i_tk rfl rfl (by omega) ?_ | refine i_stb rfl ?_ | refine i_alloc rfl ?_ | refine i_box rfl rfl ?_ | refine i_nv rfl ?_ | refine c_node ?_ ?_ | refine i_g rfl (fun h => ?_) (fun h => ?_) | refine c_cond rfl (fun h => ?_) (fun h => ?_) | refine i_f rfl rfl (hT) rfl ?_ | refine i_f rfl rfl (h1) rfl ?_ | refine i_f rfl rfl (h2) rfl ?_ | refine i_f rfl rfl (h5) rfl ?_)
        all_goals first
          | exact e_ret ⟨rfl, _, rfl, rfl⟩
          | (exfalso; clear hT h1 h2 h5 ho; simp at *; omega)
      | false =>
        have hf : failI t plan = (plan.length : Int) := by unfold failI; rw [if_neg hlt, hw, if_neg (by simp)]
        have hp := pre plan.length (by omega)
        have h4 := f_strips_Play t ho t.init (by omega) (plan.take plan.length) (by simp; omega)
        have h3 := f_strips_Play t ho t.init (by omega) plan (by omega)
        have hp3 := hp
        rw [List.take_length] at hp3
        rw [hp] at h4
        rw [hp3] at h3
        rw [hf] at h1
        rw [hw] at h2
        have h5 := f_R1_In plan.length (-1) plan.length
        rw [show (decide ((-1 : Int) ≤ (plan.length : Int)) && decide ((plan.length : Int) ≤ plan.length)) = true from by simp <;> omega] at h5
        clear hp hp3
        generalize playL t t.init plan = Y at *
        generalize playL t t.init (plan.take plan.length) = X at *
        have hk1 : ¬ (plan.length : Int) = -1 := by omega
        have hkl : plan.length ≤ plan.length := Nat.le_refl _
        clear hb hv hr hsf hst hsp hf hw hat heq pre hll hlt hle
        refine Fn.step mixed k_L1_PlansFailuresAreReal ?_
        repeat' (first | refine i_len rfl ?_ | refine i_s rfl ?_ | refine i_lenm rfl rfl rfl ?_ | refine c_seq ?_ | refine c_cut0 ?_ | refine c_ops ?_ | refine i_nil ?_ | refine e_seq ?_ | refine e_block ?_ | refine c_block ?_ | refine c_skip ?_ | refine c_ret ?_ | refine c_exit ?_ | refine e_exit rfl ?_ | refine i_s0 rfl ?_ | refine c_leaf ?_ | refine i_gt rfl ?_ | refine i_gf rfl ?_ | refine i_gd rfl ?_ | refine c_t rfl ?_ | refine c_f rfl ?_ | refine i_conv rfl (by simp only [InR, List.length_map]; omega) ?_ | refine i_add rfl rfl (by simp only [InR, List.length_map]; omega) ?_ | refine i_sub rfl rfl (by simp only [InR, List.length_map]; omega) ?_ | refine i_ixm rfl rfl (by assumption) ?_ | refine i_iai rfl rfl (by omega) (by assumption) rfl ?_ | refine i_iam rfl rfl (by assumption) rfl ?_ | refine i_tk rfl rfl (by omega) ?_ | refine i_stb rfl ?_ | refine i_alloc rfl ?_ | refine i_box rfl rfl ?_ | refine i_nv rfl ?_ | refine c_node ?_ ?_ | refine i_g rfl (fun h => ?_) (fun h => ?_) | refine c_cond rfl (fun h => ?_) (fun h => ?_) | refine i_f rfl rfl (hT) rfl ?_ | refine i_f rfl rfl (h1) rfl ?_ | refine i_f rfl rfl (h2) rfl ?_ | refine i_f rfl rfl (h3) rfl ?_ | refine i_f rfl rfl (h4) rfl ?_ | refine i_f rfl rfl (h5) rfl ?_)
        all_goals first
          | (exfalso; clear hT h1 h2 h3 h4 h5 ho; simp at *; omega)
          | (refine e_ret ⟨rfl, _, rfl, congrArg V.bool ?_⟩; first | rfl | (simp [okF]; done))
  · have h1 := f_plans_Failure_bad t ho plan hl hb
    have hne : (plFault t plan).code ≠ 0 := fun h => hb ((plFault_iff _ _).1 h)
    clear hb
    generalize plFault t plan = SF at *
    refine Fn.step mixed k_L1_PlansFailuresAreReal ?_
    repeat' (first | refine i_len rfl ?_ | refine i_s rfl ?_ | refine i_lenm rfl rfl rfl ?_ | refine c_seq ?_ | refine c_cut0 ?_ | refine c_ops ?_ | refine i_nil ?_ | refine e_seq ?_ | refine e_block ?_ | refine c_block ?_ | refine c_skip ?_ | refine c_ret ?_ | refine c_exit ?_ | refine e_exit rfl ?_ | refine i_s0 rfl ?_ | refine c_leaf ?_ | refine i_gt rfl ?_ | refine i_gf rfl ?_ | refine i_gd rfl ?_ | refine c_t rfl ?_ | refine c_f rfl ?_ | refine i_conv rfl (by simp only [InR, List.length_map]; omega) ?_ | refine i_add rfl rfl (by simp only [InR, List.length_map]; omega) ?_ | refine i_sub rfl rfl (by simp only [InR, List.length_map]; omega) ?_ | refine i_ixm rfl rfl (by assumption) ?_ | refine i_iai rfl rfl (by omega) (by assumption) rfl ?_ | refine i_iam rfl rfl (by assumption) rfl ?_ | refine i_tk rfl rfl (by omega) ?_ | refine i_stb rfl ?_ | refine i_alloc rfl ?_ | refine i_box rfl rfl ?_ | refine i_nv rfl ?_ | refine c_node ?_ ?_ | refine i_g rfl (fun h => ?_) (fun h => ?_) | refine c_cond rfl (fun h => ?_) (fun h => ?_) | refine i_f rfl rfl (hT) rfl ?_ | refine i_f rfl rfl (h1) rfl ?_)
    all_goals first
      | (exfalso; clear hT h1 ho; simp at *; done)
      | (exfalso; clear hT h1 ho; simp at *; omega)
      | (refine e_ret ⟨rfl, _, rfl, congrArg V.bool ?_⟩; first | rfl | (simp [okF]; done))
end Hm
end
