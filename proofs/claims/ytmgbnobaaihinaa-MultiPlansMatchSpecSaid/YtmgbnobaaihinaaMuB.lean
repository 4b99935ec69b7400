/- The law of plans of multi-valued tasks answers true. -/
import Derived.Test.YtmgbnobaaihinaaMuA
section
/- The law of plans of multi-valued tasks answers true. -/
namespace Hm
open Go
set_option maxRecDepth 100000
set_option maxHeartbeats 4000000
set_option linter.unusedSimpArgs false
set_option linter.unusedVariables false
def c_L1_MultiPlansMatchSpec : Cmd :=
  (.seq
   (.ops [
   .op (some 2) none (.box 256132 4 (.t 0)),
   .op (some 4) none (.mov (.c (.bool false)))])
   (.cut
   (.seq
   (.ops [
   .op (some 12) none (.load true 4 (.t 2)),
   .op (some 13) none (.call .f (.c (.fn 8 [])) [.t 12]),
   .op (some 5) none (.alloc 256322 (.agg [.int .i64 (0), .int .i64 (0)])),
   .op none none (.store 2 (.t 5) (.t 13))])
   (.cut
   (.seq
   (.seq
   (.ops [
   .op (some 14) none (.faddr 0 (.t 5)),
   .op (some 15) none (.load false 1 (.t 14)),
   .op (some 16) none (.bin .eql false [.i] (.t 15) (.c (.int .i64 (0))))])
   (.cut
   (.cond (.t 16)
   (.ops [
   .op (some 17) none (.faddr 3 (.t 2)),
   .op (some 18) none (.load false 1 (.t 17)),
   .op (some 19) none (.len false (.t 18)),
   .op (some 20) none (.mov (.t 1)),
   .op (some 21) none (.call .f (.c (.fn 19 [])) [.t 19, .t 20]),
   .op none none (.store 2 (.t 5) (.t 21))])
   .skip)))
   (.cut
   (.seq
   (.ops [
   .op (some 6) none (.mov (.c (.int .i64 (0))))])
   (.cut
   (.seq
   (.seq
   (.ops [
   .op (some 7) none (.mov (.c (.int .i64 (0))))])
   (.cut
   (.block 0
   (.loop
   (.seq
   (.seq
   (.ops [
   .op (some 22) none (.mov (.t 7)),
   .op (some 23) none (.mov (.t 1)),
   .op (some 24) none (.len false (.t 23)),
   .op (some 25) none (.bin .lss false [] (.t 22) (.t 24)),
   .op (some 26) none (.mov (.t 25)),
   .op (some 27) (some (26, true)) (.faddr 0 (.t 5)),
   .op (some 28) (some (26, true)) (.load false 1 (.t 27)),
   .op (some 29) (some (26, true)) (.bin .eql false [.i] (.t 28) (.c (.int .i64 (0)))),
   .op (some 30) none (.pick (.t 26) (.t 29) (.c (.bool false)))])
   (.cut
   (.cond (.t 30)
   .skip
   (.exit 0))))
   (.cut
   (.seq
   (.block 1
   (.ops [
   .op (some 33) none (.mov (.t 6)),
   .op (some 34) none (.faddr 3 (.t 2)),
   .op (some 35) none (.load false 1 (.t 34)),
   .op (some 36) none (.mov (.t 1)),
   .op (some 37) none (.mov (.t 7)),
   .op (some 38) none (.iaddr 1 (.t 36) (.t 37)),
   .op (some 39) none (.load false 1 (.t 38)),
   .op (some 40) none (.iaddr 3 (.t 35) (.t 39)),
   .op (some 41) none (.faddr 2 (.t 40)),
   .op (some 42) none (.load false 1 (.t 41)),
   .op (some 43) none (.bin .add false [] (.t 33) (.t 42)),
   .op (some 6) none (.mov (.t 43))]))
   (.cut
   (.ops [
   .op (some 31) none (.mov (.t 7)),
   .op (some 32) none (.bin .add false [] (.t 31) (.c (.int .i64 (1)))),
   .op (some 7) none (.mov (.t 32))])))))))))
   (.cut
   (.seq
   (.ops [
   .op (some 45) none (.load true 4 (.t 2)),
   .op (some 46) none (.mov (.t 1)),
   .op (some 47) none (.call .f (.c (.fn 20 [])) [.t 45, .t 46]),
   .op (some 44) none (.mov (.t 47)),
   .op (some 48) none (.extract (.t 44) 0),
   .op (some 49) none (.extract (.t 44) 1),
   .op (some 9) none (.alloc 256578 (.agg [.int .i64 (0), .int .i64 (0)])),
   .op (some 8) none (.mov (.t 48)),
   .op none none (.store 2 (.t 9) (.t 49))])
   (.cut
   (.seq
   (.ops [
   .op (some 51) none (.load true 4 (.t 2)),
   .op (some 52) none (.mov (.t 1)),
   .op (some 53) none (.call .f (.c (.fn 21 [])) [.t 51, .t 52]),
   .op (some 50) none (.mov (.t 53)),
   .op (some 54) none (.extract (.t 50) 0),
   .op (some 55) none (.extract (.t 50) 1),
   .op (some 11) none (.alloc 256706 (.agg [.int .i64 (0), .int .i64 (0)])),
   .op (some 10) none (.mov (.t 54)),
   .op none none (.store 2 (.t 11) (.t 55))])
   (.cut
   (.seq
   (.ops [
   .op (some 56) none (.call .f (.c (.fn 9 [])) []),
   .op (some 57) none (.mov (.t 56)),
   .op (some 58) (some (57, true)) (.load true 2 (.t 9)),
   .op (some 59) (some (57, true)) (.load true 2 (.t 5)),
   .op (some 60) (some (57, true)) (.bin .eql true [.i, .i] (.t 58) (.t 59)),
   .op (some 61) none (.pick (.t 57) (.t 60) (.c (.bool false))),
   .op (some 62) none (.mov (.t 61)),
   .op (some 63) (some (62, true)) (.load true 2 (.t 11)),
   .op (some 64) (some (62, true)) (.load true 2 (.t 5)),
   .op (some 65) (some (62, true)) (.bin .eql true [.i, .i] (.t 63) (.t 64)),
   .op (some 66) none (.pick (.t 62) (.t 65) (.c (.bool false))),
   .op (some 67) none (.mov (.t 66)),
   .op (some 68) (some (67, true)) (.mov (.t 10)),
   .op (some 69) (some (67, true)) (.mov (.t 6)),
   .op (some 70) (some (67, true)) (.bin .eql false [.i] (.t 68) (.t 69)),
   .op (some 71) none (.pick (.t 67) (.t 70) (.c (.bool false))),
   .op (some 72) none (.mov (.t 71)),
   .op (some 73) (some (72, true)) (.mov (.t 8)),
   .op (some 74) (some (72, true)) (.faddr 0 (.t 5)),
   .op (some 75) (some (72, true)) (.load false 1 (.t 74)),
   .op (some 76) (some (72, true)) (.bin .eql false [.i] (.t 75) (.c (.int .i64 (0)))),
   .op (some 77) (some (72, true)) (.mov (.t 76)),
   .op (some 78) (some (77, true)) (.load true 4 (.t 2)),
   .op (some 79) (some (77, true)) (.mov (.t 1)),
   .op (some 80) (some (77, true)) (.call .f (.c (.fn 22 [])) [.t 78, .t 79]),
   .op (some 81) (some (72, true)) (.pick (.t 77) (.t 80) (.c (.bool false))),
   .op (some 82) (some (72, true)) (.bin .eql false [.b] (.t 73) (.t 81)),
   .op (some 83) none (.pick (.t 72) (.t 82) (.c (.bool false))),
   .op (some 4) none (.mov (.t 83))])
   .ret)))))))))))))))
def r_L1_MultiPlansMatchSpec : List RVar := [.tmp 4]
def n_L1_MultiPlansMatchSpec : Nat := 84
theorem k_L1_MultiPlansMatchSpec : chkFn Go.Proofs.Try.prog 4 n_L1_MultiPlansMatchSpec r_L1_MultiPlansMatchSpec c_L1_MultiPlansMatchSpec = true := by kernel_rfl
theorem f_L1_MultiPlansMatchSpec (m : MTask) (ho : MOk m) (plan : List Int) (hl : plan.length ≤ 140737488355328) : Fc Go.Proofs.Try.prog 4 [mtV m, .sl .p (plan.map i64V)] (.bool true) := by
  have hF := f_R1_MultiFault m ho
  have hT := f_L1_turns
  by_cases hb : mPlanFault m plan = okF
  · obtain ⟨hv, h60, hr⟩ := mPlan_ok hb
    have hm : mFault m = okF := by
      by_cases h : mFault m = okF
      · exact h
      · rw [mPlanFault, if_neg h] at hb; exact hb
    have hS := f_R1_StepsFault m.ops.length ho.2.2.2.1 plan hl
    rw [show stepsF m.ops.length plan = okF from by rw [mPlanFault, if_pos hm] at hb; exact hb] at hS
    rw [hm] at hF
    have h1 := f_multi_Solves_ok m ho plan hb
    have h2 := f_R1_MultiSolves m ho plan hb
    have h3 := f_multi_Cost_ok m ho plan hb
    refine Fn.step mixed k_L1_MultiPlansMatchSpec ?_
    repeat' (first | refine i_len rfl ?_ | refine i_s rfl ?_ | refine i_lenm rfl rfl rfl ?_ | refine c_seq ?_ | refine c_cut0 ?_ | refine c_ops ?_ | refine i_nil ?_ | refine e_seq ?_ | refine e_block ?_ | refine c_block ?_ | refine c_skip ?_ | refine c_ret ?_ | refine c_exit ?_ | refine e_exit rfl ?_ | refine i_s0 rfl ?_ | refine c_leaf ?_ | refine i_gt rfl ?_ | refine i_gf rfl ?_ | refine i_gd rfl ?_ | refine c_t rfl ?_ | refine c_f rfl ?_ | refine i_conv rfl (by simp only [InR, List.length_map]; omega) ?_ | refine i_add rfl rfl (by simp only [InR, List.length_map]; omega) ?_ | refine i_sub rfl rfl (by simp only [InR, List.length_map]; omega) ?_ | refine i_ixm rfl rfl (by assumption) ?_ | refine i_iai rfl rfl (by omega) (by assumption) rfl ?_ | refine i_iam rfl rfl (by assumption) rfl ?_ | refine i_tk rfl rfl (by omega) ?_ | refine i_stb rfl ?_ | refine i_alloc rfl ?_ | refine i_box rfl rfl ?_ | refine i_nv rfl ?_ | refine c_node ?_ ?_ | refine i_g rfl (fun h => ?_) (fun h => ?_) | refine c_cond rfl (fun h => ?_) (fun h => ?_) | refine i_f rfl rfl (hF) rfl ?_ | refine i_f rfl rfl (hS) rfl ?_)
    refine c_for plan.length (fun k => [(1, .sl .p (plan.map i64V)), (2, .bptr 256132 0), (5, .bptr 256322 0), (6, .int .i64 (costL m (plan.take k))), (7, .int .i64 k)]) (fun _ => [(256132, .box (mtV m)), (256322, .box (ftV okF))]) (fun _ => True) trivial ⟨by repeat (first | exact trivial | refine ⟨rfl, ?_⟩), by repeat (first | exact trivial | refine ⟨rfl, ?_⟩), rfl⟩ fun k hk _ => ?_
    repeat (first | refine i_len rfl ?_ | refine i_s rfl ?_ | refine i_lenm rfl rfl rfl ?_ | refine c_seq ?_ | refine c_cut0 ?_ | refine c_ops ?_ | refine i_nil ?_ | refine e_seq ?_ | refine e_block ?_ | refine c_block ?_ | refine c_skip ?_ | refine c_ret ?_ | refine c_exit ?_ | refine e_exit rfl ?_ | refine i_s0 rfl ?_ | refine c_leaf ?_ | refine i_gt rfl ?_ | refine i_gf rfl ?_ | refine i_gd rfl ?_ | refine c_t rfl ?_ | refine c_f rfl ?_ | refine i_conv rfl (by simp only [InR, List.length_map]; omega) ?_ | refine i_add rfl rfl (by simp only [InR, List.length_map]; omega) ?_ | refine i_sub rfl rfl (by simp only [InR, List.length_map]; omega) ?_ | refine i_ixm rfl rfl (by assumption) ?_ | refine i_iai rfl rfl (by omega) (by assumption) rfl ?_ | refine i_iam rfl rfl (by assumption) rfl ?_ | refine i_tk rfl rfl (by omega) ?_ | refine i_stb rfl ?_ | refine i_alloc rfl ?_ | refine i_box rfl rfl ?_ | refine i_nv rfl ?_)
    refine i_g rfl (fun h => ?_) (fun h => ?_)
    · have hlt : k < plan.length := by simpa using h
      obtain ⟨x, hx⟩ := get_some hlt
      obtain ⟨x0, x1⟩ := hr x (mem_get hx)
      obtain ⟨o, hc⟩ := get_some (l := m.ops) (k := x.toNat) (by omega)
      have hop := hv.op o (mem_get hc)
      have hcr := costL_range hv (plan.take k)
      have htl : (plan.take k).length ≤ 60 := by simp; omega
      have e : costL m (plan.take (k + 1)) = costL m (plan.take k) + o.cost := by rw [take_succ_get hx, costL_snoc, show costAt m x = o.cost from by simp [costAt, hc]]
      clear hF hT hS h1 h2 h3 hr hv
      repeat (first | refine i_len rfl ?_ | refine i_s rfl ?_ | refine i_lenm rfl rfl rfl ?_ | refine c_seq ?_ | refine c_cut0 ?_ | refine c_ops ?_ | refine i_nil ?_ | refine e_seq ?_ | refine e_block ?_ | refine c_block ?_ | refine c_skip ?_ | refine c_ret ?_ | refine c_exit ?_ | refine e_exit rfl ?_ | refine i_s0 rfl ?_ | refine c_leaf ?_ | refine i_gt rfl ?_ | refine i_gf rfl ?_ | refine i_gd rfl ?_ | refine c_t rfl ?_ | refine c_f rfl ?_ | refine i_conv rfl (by simp only [InR, List.length_map]; omega) ?_ | refine i_add rfl rfl (by simp only [InR, List.length_map]; omega) ?_ | refine i_sub rfl rfl (by simp only [InR, List.length_map]; omega) ?_ | refine i_ixm rfl rfl (by assumption) ?_ | refine i_iai rfl rfl (by omega) (by assumption) rfl ?_ | refine i_iam rfl rfl (by assumption) rfl ?_ | refine i_tk rfl rfl (by omega) ?_ | refine i_stb rfl ?_ | refine i_alloc rfl ?_ | refine i_box rfl rfl ?_ | refine i_nv rfl ?_)
      refine e_for hlt trivial ⟨⟨rfl, rfl, rfl, ?_, rfl, trivial⟩, ⟨rfl, rfl, trivial⟩, rfl⟩
      rw [e]; rfl
    · have hge : k = plan.length := by have : ¬ k < plan.length := by simpa using h
                                       omega
      subst hge
      rw [List.take_length]
      repeat' (first | refine i_len rfl ?_ | refine i_s rfl ?_ | refine i_lenm rfl rfl rfl ?_ | refine c_seq ?_ | refine c_cut0 ?_ | refine c_ops ?_ | refine i_nil ?_ | refine e_seq ?_ | refine e_block ?_ | refine c_block ?_ | refine c_skip ?_ | refine c_ret ?_ | refine c_exit ?_ | refine e_exit rfl ?_ | refine i_s0 rfl ?_ | refine c_leaf ?_ | refine i_gt rfl ?_ | refine i_gf rfl ?_ | refine i_gd rfl ?_ | refine c_t rfl ?_ | refine c_f rfl ?_ | refine i_conv rfl (by simp only [InR, List.length_map]; omega) ?_ | refine i_add rfl rfl (by simp only [InR, List.length_map]; omega) ?_ | refine i_sub rfl rfl (by simp only [InR, List.length_map]; omega) ?_ | refine i_ixm rfl rfl (by assumption) ?_ | refine i_iai rfl rfl (by omega) (by assumption) rfl ?_ | refine i_iam rfl rfl (by assumption) rfl ?_ | refine i_tk rfl rfl (by omega) ?_ | refine i_stb rfl ?_ | refine i_alloc rfl ?_ | refine i_box rfl rfl ?_ | refine i_nv rfl ?_ | refine c_node ?_ ?_ | refine i_g rfl (fun h => ?_) (fun h => ?_) | refine c_cond rfl (fun h => ?_) (fun h => ?_) | refine i_f rfl rfl (h1) rfl ?_ | refine i_f rfl rfl (h2) rfl ?_ | refine i_f rfl rfl (h3) rfl ?_ | refine i_f rfl rfl (hT) rfl ?_)
      clear hF hT hS h1 h2 h3 hr hv ho
      all_goals first | (refine e_ret ⟨rfl, _, rfl, congrArg V.bool ?_⟩; first | rfl | grind) | (exfalso; grind)
  · have h1 := f_multi_Solves_bad m ho plan hl hb
    have h3 := f_multi_Cost_bad m ho plan hl hb
    have hne : (mPlanFault m plan).code ≠ 0 := fun h => hb ((mPlanFault_iff m plan).1 h)
    by_cases hm : mFault m = okF
    · have hS := f_R1_StepsFault m.ops.length ho.2.2.2.1 plan hl
      rw [mPlanFault, if_pos hm] at hne h1 h3
      rw [hm] at hF
      clear hb
      generalize stepsF m.ops.length plan = F at *
      refine Fn.step mixed k_L1_MultiPlansMatchSpec ?_
      repeat' (first | refine i_len rfl ?_ | refine i_s rfl ?_ | refine i_lenm rfl rfl rfl ?_ | refine c_seq ?_ | refine c_cut0 ?_ | refine c_ops ?_ | refine i_nil ?_ | refine e_seq ?_ | refine e_block ?_ | refine c_block ?_ | refine c_skip ?_ | refine c_ret ?_ | refine c_exit ?_ | refine e_exit rfl ?_ | refine i_s0 rfl ?_ | refine c_leaf ?_ | refine i_gt rfl ?_ | refine i_gf rfl ?_ | refine i_gd rfl ?_ | refine c_t rfl ?_ | refine c_f rfl ?_ | refine i_conv rfl (by simp only [InR, List.length_map]; omega) ?_ | refine i_add rfl rfl (by simp only [InR, List.length_map]; omega) ?_ | refine i_sub rfl rfl (by simp only [InR, List.length_map]; omega) ?_ | refine i_ixm rfl rfl (by assumption) ?_ | refine i_iai rfl rfl (by omega) (by assumption) rfl ?_ | refine i_iam rfl rfl (by assumption) rfl ?_ | refine i_tk rfl rfl (by omega) ?_ | refine i_stb rfl ?_ | refine i_alloc rfl ?_ | refine i_box rfl rfl ?_ | refine i_nv rfl ?_ | refine c_node ?_ ?_ | refine i_g rfl (fun h => ?_) (fun h => ?_) | refine c_cond rfl (fun h => ?_) (fun h => ?_) | refine i_f rfl rfl (hF) rfl ?_ | refine i_f rfl rfl (hS) rfl ?_)
      refine c_for 0 (fun k => [(1, .sl .p (plan.map i64V)), (2, .bptr 256132 0), (5, .bptr 256322 0), (6, .int .i64 0), (7, .int .i64 k)]) (fun _ => [(256132, .box (mtV m)), (256322, .box (ftV F))]) (fun _ => True) trivial ⟨by repeat (first | exact trivial | refine ⟨rfl, ?_⟩), by repeat (first | exact trivial | refine ⟨rfl, ?_⟩), rfl⟩ fun k hk _ => ?_
      have hk0 : k = 0 := by omega
      subst hk0
      repeat' (first | refine i_len rfl ?_ | refine i_s rfl ?_ | refine i_lenm rfl rfl rfl ?_ | refine c_seq ?_ | refine c_cut0 ?_ | refine c_ops ?_ | refine i_nil ?_ | refine e_seq ?_ | refine e_block ?_ | refine c_block ?_ | refine c_skip ?_ | refine c_ret ?_ | refine c_exit ?_ | refine e_exit rfl ?_ | refine i_s0 rfl ?_ | refine c_leaf ?_ | refine i_gt rfl ?_ | refine i_gf rfl ?_ | refine i_gd rfl ?_ | refine c_t rfl ?_ | refine c_f rfl ?_ | refine i_conv rfl (by simp only [InR, List.length_map]; omega) ?_ | refine i_add rfl rfl (by simp only [InR, List.length_map]; omega) ?_ | refine i_sub rfl rfl (by simp only [InR, List.length_map]; omega) ?_ | refine i_ixm rfl rfl (by assumption) ?_ | refine i_iai rfl rfl (by omega) (by assumption) rfl ?_ | refine i_iam rfl rfl (by assumption) rfl ?_ | refine i_tk rfl rfl (by omega) ?_ | refine i_stb rfl ?_ | refine i_alloc rfl ?_ | refine i_box rfl rfl ?_ | refine i_nv rfl ?_ | refine c_node ?_ ?_ | refine i_g rfl (fun h => ?_) (fun h => ?_) | refine c_cond rfl (fun h => ?_) (fun h => ?_) | refine i_f rfl rfl (h1) rfl ?_ | refine i_f rfl rfl (h3) rfl ?_ | refine i_f rfl rfl (hT) rfl ?_)
      clear hF hT hS h1 h3 ho
      all_goals first | (refine e_ret ⟨rfl, _, rfl, congrArg V.bool ?_⟩; first | rfl | grind) | (exfalso; grind)
    · rw [mPlanFault, if_neg hm] at hne h1 h3
      clear hb hm
      generalize mFault m = F at *
      refine Fn.step mixed k_L1_MultiPlansMatchSpec ?_
      repeat' (first | refine i_len rfl ?_ | refine i_s rfl ?_ | refine i_lenm rfl rfl rfl ?_ | refine c_seq ?_ | refine c_cut0 ?_ | refine c_ops ?_ | refine i_nil ?_ | refine e_seq ?_ | refine e_block ?_ | refine c_block ?_ | refine c_skip ?_ | refine c_ret ?_ | refine c_exit ?_ | refine e_exit rfl ?_ | refine i_s0 rfl ?_ | refine c_leaf ?_ | refine i_gt rfl ?_ | refine i_gf rfl ?_ | refine i_gd rfl ?_ | refine c_t rfl ?_ | refine c_f rfl ?_ | refine i_conv rfl (by simp only [InR, List.length_map]; omega) ?_ | refine i_add rfl rfl (by simp only [InR, List.length_map]; omega) ?_ | refine i_sub rfl rfl (by simp only [InR, List.length_map]; omega) ?_ | refine i_ixm rfl rfl (by assumption) ?_ | refine i_iai rfl rfl (by omega) (by assumption) rfl ?_ | refine i_iam rfl rfl (by assumption) rfl ?_ | refine i_tk rfl rfl (by omega) ?_ | refine i_stb rfl ?_ | refine i_alloc rfl ?_ | refine i_box rfl rfl ?_ | refine i_nv rfl ?_ | refine c_node ?_ ?_ | refine i_g rfl (fun h => ?_) (fun h => ?_) | refine c_cond rfl (fun h => ?_) (fun h => ?_) | refine i_f rfl rfl (hF) rfl ?_)
      · exact absurd (of_decide_eq_true h) hne
      refine c_for 0 (fun k => [(1, .sl .p (plan.map i64V)), (2, .bptr 256132 0), (5, .bptr 256322 0), (6, .int .i64 0), (7, .int .i64 k)]) (fun _ => [(256132, .box (mtV m)), (256322, .box (ftV F))]) (fun _ => True) trivial ⟨by repeat (first | exact trivial | refine ⟨rfl, ?_⟩), by repeat (first | exact trivial | refine ⟨rfl, ?_⟩), rfl⟩ fun k hk _ => ?_
      have hk0 : k = 0 := by omega
      subst hk0
      repeat' (first | refine i_len rfl ?_ | refine i_s rfl ?_ | refine i_lenm rfl rfl rfl ?_ | refine c_seq ?_ | refine c_cut0 ?_ | refine c_ops ?_ | refine i_nil ?_ | refine e_seq ?_ | refine e_block ?_ | refine c_block ?_ | refine c_skip ?_ | refine c_ret ?_ | refine c_exit ?_ | refine e_exit rfl ?_ | refine i_s0 rfl ?_ | refine c_leaf ?_ | refine i_gt rfl ?_ | refine i_gf rfl ?_ | refine i_gd rfl ?_ | refine c_t rfl ?_ | refine c_f rfl ?_ | refine i_conv rfl (by simp only [InR, List.length_map]; omega) ?_ | refine i_add rfl rfl (by simp only [InR, List.length_map]; omega) ?_ | refine i_sub rfl rfl (by simp only [InR, List.length_map]; omega) ?_ | refine i_ixm rfl rfl (by assumption) ?_ | refine i_iai rfl rfl (by omega) (by assumption) rfl ?_ | refine i_iam rfl rfl (by assumption) rfl ?_ | refine i_tk rfl rfl (by omega) ?_ | refine i_stb rfl ?_ | refine i_alloc rfl ?_ | refine i_box rfl rfl ?_ | refine i_nv rfl ?_ | refine c_node ?_ ?_ | refine i_g rfl (fun h => ?_) (fun h => ?_) | refine c_cond rfl (fun h => ?_) (fun h => ?_) | refine i_f rfl rfl (h1) rfl ?_ | refine i_f rfl rfl (h3) rfl ?_ | refine i_f rfl rfl (hT) rfl ?_)
      clear hF hT h1 h3 ho
      all_goals first | (refine e_ret ⟨rfl, _, rfl, congrArg V.bool ?_⟩; first | rfl | grind) | (exfalso; grind)
end Hm
end
