/- Contracts: faults of states and plans; sets that contain others; copies. -/
import Derived.Test.YtnkfkddgbiijgaaStA
section
/- Contracts: faults of states and plans; sets that contain others; copies. -/
namespace Hm
open Go
set_option maxRecDepth 100000
set_option maxHeartbeats 2000000
set_option linter.unusedSimpArgs false
set_option linter.unusedVariables false
def c_strips_Steps : Cmd :=
  (.seq
   (.ops [
   .op (some 4) none (.alloc 2624258 (.agg [.int .i64 (0), .int .i64 (0)]))])
   (.cut
   (.seq
   (.seq
   (.ops [
   .op (some 7) none (.mov (.t 1)),
   .op (some 8) none (.len false (.t 7)),
   .op (some 9) none (.bin .gtr false [] (.t 8) (.c (.int .i64 (60))))])
   (.cut
   (.cond (.t 9)
   (.seq
   (.ops [
   .op (some 10) none (.build [.int .i64 (0), .int .i64 (0)] [(0, 1, .c (.int .i64 (2))), (1, 1, .c (.int .i64 (-5)))]),
   .op none none (.store 2 (.t 4) (.t 10))])
   .ret)
   .skip)))
   (.cut
   (.seq
   (.seq
   (.ops [
   .op (some 11) none (.mov (.t 1)),
   .op (some 12) none (.len false (.t 11)),
   .op (some 13) none (.mov (.c (.int .i64 (0))))])
   (.cut
   (.block 0
   (.loop
   (.seq
   (.ops [
   .op (some 14) none (.bin .lss false [] (.t 13) (.t 12))])
   (.cut
   (.seq
   (.cond (.t 14)
   .skip
   (.exit 0))
   (.cut
   (.seq
   (.block 1
   (.seq
   (.ops [
   .op (some 15) none (.iaddr 1 (.t 11) (.t 13)),
   .op (some 16) none (.load false 1 (.t 15)),
   .op (some 6) none (.mov (.t 16))])
   (.cut
   (.seq
   (.ops [
   .op (some 17) none (.mov (.t 6)),
   .op (some 18) none (.bin .lss false [] (.t 17) (.c (.int .i64 (0)))),
   .op (some 19) none (.mov (.t 18)),
   .op (some 20) (some (19, false)) (.mov (.t 6)),
   .op (some 21) (some (19, false)) (.mov (.t 0)),
   .op (some 22) (some (19, false)) (.bin .geq false [] (.t 20) (.t 21)),
   .op (some 23) none (.pick (.t 19) (.c (.bool true)) (.t 22))])
   (.cut
   (.cond (.t 23)
   (.seq
   (.ops [
   .op (some 24) none (.build [.int .i64 (0), .int .i64 (0)] [(0, 1, .c (.int .i64 (3))), (1, 1, .c (.int .i64 (-6)))]),
   .op none none (.store 2 (.t 4) (.t 24))])
   .ret)
   .skip))))))
   (.cut
   (.ops [
   .op (some 25) none (.bin .add false [] (.t 13) (.c (.int .i64 (1)))),
   .op (some 13) none (.mov (.t 25))])))))))))))
   (.cut
   (.seq
   (.ops [
   .op (some 26) none (.build [.int .i64 (0), .int .i64 (0)] []),
   .op none none (.store 2 (.t 4) (.t 26))])
   .ret)))))))
def r_strips_Steps : List RVar := [.cell true 2 4]
def n_strips_Steps : Nat := 27
theorem k_strips_Steps : chkFn Go.Proofs.Try.prog 41 n_strips_Steps r_strips_Steps c_strips_Steps = true := by kernel_rfl
theorem f_strips_Steps (n : Nat) (plan : List Int) (hl : plan.length ≤ 140737488355328) : Fc Go.Proofs.Try.prog 41 [.int .i64 n, .sl .p (plan.map i64V)] (ftV (stepsF n plan)) := by
  refine Fn.step mixed k_strips_Steps ?_
  repeat' (first | refine i_len rfl ?_ | refine i_s rfl ?_ | refine i_lenm rfl rfl rfl ?_ | refine c_seq ?_ | refine c_cut0 ?_ | refine c_ops ?_ | refine i_nil ?_ | refine e_seq ?_ | refine e_block ?_ | refine c_block ?_ | refine c_skip ?_ | refine c_ret ?_ | refine c_exit ?_ | refine e_exit rfl ?_ | refine i_s0 rfl ?_ | refine c_leaf ?_ | refine i_gt rfl ?_ | refine i_gf rfl ?_ | refine i_gd rfl ?_ | refine c_t rfl ?_ | refine c_f rfl ?_ | refine i_conv rfl (by simp only [InR, List.length_map]; omega) ?_ | refine i_add rfl rfl (by simp only [InR, List.length_map]; omega) ?_ | refine i_sub rfl rfl (by simp only [InR, List.length_map]; omega) ?_ | refine i_ixm rfl rfl (by assumption) ?_ | refine i_iai rfl rfl (by omega) (by assumption) rfl ?_ | refine i_iam rfl rfl (by assumption) rfl ?_ | refine i_tk rfl rfl (by omega) ?_ | refine i_stb rfl ?_ | refine i_alloc rfl ?_ | refine i_box rfl rfl ?_ | refine i_nv rfl ?_ | refine c_node ?_ ?_ | refine i_g rfl (fun h => ?_) (fun h => ?_) | refine c_cond rfl (fun h => ?_) (fun h => ?_))
  · exact e_ret ⟨rfl, _, rfl, congr_ft (by rw [stepsF, if_pos (by grind)])⟩
  have h60 : ¬ plan.length > 60 := by grind
  clear h
  refine c_for plan.length (fun k => [(0, .int .i64 n), (4, .bptr 2624258 0), (11, .sl .p (plan.map i64V)), (12, .int .i64 plan.length), (13, .int .i64 k)]) (fun _ => [(2624258, .box (ftV okF))]) (fun k => (plan.take k).any (badStep n) = false) (by simp) ⟨by repeat (first | exact trivial | refine ⟨rfl, ?_⟩), by repeat (first | exact trivial | refine ⟨rfl, ?_⟩), rfl⟩ fun k hk hi => ?_
  repeat (first | refine i_len rfl ?_ | refine i_s rfl ?_ | refine i_lenm rfl rfl rfl ?_ | refine c_seq ?_ | refine c_cut0 ?_ | refine c_ops ?_ | refine i_nil ?_ | refine e_seq ?_ | refine e_block ?_ | refine c_block ?_ | refine c_skip ?_ | refine c_ret ?_ | refine c_exit ?_ | refine e_exit rfl ?_ | refine i_s0 rfl ?_ | refine c_leaf ?_ | refine i_gt rfl ?_ | refine i_gf rfl ?_ | refine i_gd rfl ?_ | refine c_t rfl ?_ | refine c_f rfl ?_ | refine i_conv rfl (by simp only [InR, List.length_map]; omega) ?_ | refine i_add rfl rfl (by simp only [InR, List.length_map]; omega) ?_ | refine i_sub rfl rfl (by simp only [InR, List.length_map]; omega) ?_ | refine i_ixm rfl rfl (by assumption) ?_ | refine i_iai rfl rfl (by omega) (by assumption) rfl ?_ | refine i_iam rfl rfl (by assumption) rfl ?_ | refine i_tk rfl rfl (by omega) ?_ | refine i_stb rfl ?_ | refine i_alloc rfl ?_ | refine i_box rfl rfl ?_ | refine i_nv rfl ?_)
  refine c_cond rfl (fun h => ?_) (fun h => ?_)
  · have hlt : k < plan.length := by simpa using h
    obtain ⟨x, hx⟩ := get_some hlt
    clear h
    repeat' (first | refine i_len rfl ?_ | refine i_s rfl ?_ | refine i_lenm rfl rfl rfl ?_ | refine c_seq ?_ | refine c_cut0 ?_ | refine c_ops ?_ | refine i_nil ?_ | refine e_seq ?_ | refine e_block ?_ | refine c_block ?_ | refine c_skip ?_ | refine c_ret ?_ | refine c_exit ?_ | refine e_exit rfl ?_ | refine i_s0 rfl ?_ | refine c_leaf ?_ | refine i_gt rfl ?_ | refine i_gf rfl ?_ | refine i_gd rfl ?_ | refine c_t rfl ?_ | refine c_f rfl ?_ | refine i_conv rfl (by simp only [InR, List.length_map]; omega) ?_ | refine i_add rfl rfl (by simp only [InR, List.length_map]; omega) ?_ | refine i_sub rfl rfl (by simp only [InR, List.length_map]; omega) ?_ | refine i_ixm rfl rfl (by assumption) ?_ | refine i_iai rfl rfl (by omega) (by assumption) rfl ?_ | refine i_iam rfl rfl (by assumption) rfl ?_ | refine i_tk rfl rfl (by omega) ?_ | refine i_stb rfl ?_ | refine i_alloc rfl ?_ | refine i_box rfl rfl ?_ | refine i_nv rfl ?_ | refine c_node ?_ ?_ | refine i_g rfl (fun h => ?_) (fun h => ?_) | refine c_cond rfl (fun h => ?_) (fun h => ?_))
    all_goals first
      | refine e_for hlt ?_ ⟨by repeat (first | exact trivial | refine ⟨rfl, ?_⟩), by repeat (first | exact trivial | refine ⟨rfl, ?_⟩), rfl⟩
        rw [take_succ_get hx, List.any_append, hi]
        simp only [List.any_cons, List.any_nil, Bool.or_false, Bool.false_or]
        unfold badStep; clear hi; grind
      | refine e_ret ⟨rfl, _, rfl, congr_ft ?_⟩
        rw [stepsF, if_neg h60, if_pos]
        exact List.any_eq_true.2 ⟨x, mem_get hx, by unfold badStep; clear hi; grind⟩
  · have hge : ¬ k < plan.length := by simpa using h
    rw [List.take_of_length_le (by omega)] at hi
    repeat' (first | refine i_len rfl ?_ | refine i_s rfl ?_ | refine i_lenm rfl rfl rfl ?_ | refine c_seq ?_ | refine c_cut0 ?_ | refine c_ops ?_ | refine i_nil ?_ | refine e_seq ?_ | refine e_block ?_ | refine c_block ?_ | refine c_skip ?_ | refine c_ret ?_ | refine c_exit ?_ | refine e_exit rfl ?_ | refine i_s0 rfl ?_ | refine c_leaf ?_ | refine i_gt rfl ?_ | refine i_gf rfl ?_ | refine i_gd rfl ?_ | refine c_t rfl ?_ | refine c_f rfl ?_ | refine i_conv rfl (by simp only [InR, List.length_map]; omega) ?_ | refine i_add rfl rfl (by simp only [InR, List.length_map]; omega) ?_ | refine i_sub rfl rfl (by simp only [InR, List.length_map]; omega) ?_ | refine i_ixm rfl rfl (by assumption) ?_ | refine i_iai rfl rfl (by omega) (by assumption) rfl ?_ | refine i_iam rfl rfl (by assumption) rfl ?_ | refine i_tk rfl rfl (by omega) ?_ | refine i_stb rfl ?_ | refine i_alloc rfl ?_ | refine i_box rfl rfl ?_ | refine i_nv rfl ?_ | refine c_node ?_ ?_ | refine i_g rfl (fun h => ?_) (fun h => ?_) | refine c_cond rfl (fun h => ?_) (fun h => ?_))
    exact e_ret ⟨rfl, _, rfl, congr_ft (by rw [stepsF, if_neg h60, hi, if_neg (by simp)]; rfl)⟩
def c_R1_StepsFault : Cmd :=
  (.seq
   (.ops [
   .op (some 4) none (.alloc 1664258 (.agg [.int .i64 (0), .int .i64 (0)]))])
   (.cut
   (.seq
   (.seq
   (.ops [
   .op (some 6) none (.mov (.t 1)),
   .op (some 7) none (.len false (.t 6)),
   .op (some 8) none (.bin .gtr false [] (.t 7) (.c (.int .i64 (60))))])
   (.cut
   (.cond (.t 8)
   (.seq
   (.ops [
   .op (some 9) none (.call .f (.c (.fn 16 [])) [.c (.int .i64 (2)), .c (.int .i64 (-5))]),
   .op none none (.store 2 (.t 4) (.t 9))])
   .ret)
   .skip)))
   (.cut
   (.seq
   (.seq
   (.ops [
   .op (some 5) none (.mov (.c (.int .i64 (0))))])
   (.cut
   (.block 0
   (.loop
   (.seq
   (.seq
   (.ops [
   .op (some 10) none (.mov (.t 5)),
   .op (some 11) none (.mov (.t 1)),
   .op (some 12) none (.len false (.t 11)),
   .op (some 13) none (.bin .lss false [] (.t 10) (.t 12))])
   (.cut
   (.cond (.t 13)
   .skip
   (.exit 0))))
   (.cut
   (.seq
   (.block 1
   (.seq
   (.ops [
   .op (some 16) none (.mov (.t 1)),
   .op (some 17) none (.mov (.t 5)),
   .op (some 18) none (.iaddr 1 (.t 16) (.t 17)),
   .op (some 19) none (.load false 1 (.t 18)),
   .op (some 20) none (.mov (.t 0)),
   .op (some 21) none (.bin .sub false [] (.t 20) (.c (.int .i64 (1)))),
   .op (some 22) none (.call .f (.c (.fn 19 [])) [.t 19, .c (.int .i64 (0)), .t 21]),
   .op (some 23) none (.not (.t 22))])
   (.cut
   (.cond (.t 23)
   (.seq
   (.ops [
   .op (some 24) none (.call .f (.c (.fn 16 [])) [.c (.int .i64 (3)), .c (.int .i64 (-6))]),
   .op none none (.store 2 (.t 4) (.t 24))])
   .ret)
   .skip))))
   (.cut
   (.ops [
   .op (some 14) none (.mov (.t 5)),
   .op (some 15) none (.bin .add false [] (.t 14) (.c (.int .i64 (1)))),
   .op (some 5) none (.mov (.t 15))])))))))))
   (.cut
   (.seq
   (.ops [
   .op (some 25) none (.build [.int .i64 (0), .int .i64 (0)] []),
   .op none none (.store 2 (.t 4) (.t 25))])
   .ret)))))))
def r_R1_StepsFault : List RVar := [.cell true 2 4]
def n_R1_StepsFault : Nat := 26
theorem k_R1_StepsFault : chkFn Go.Proofs.Try.prog 26 n_R1_StepsFault r_R1_StepsFault c_R1_StepsFault = true := by kernel_rfl
theorem f_R1_StepsFault (n : Nat) (hn : n ≤ 140737488355328) (plan : List Int) (hl : plan.length ≤ 140737488355328) : Fc Go.Proofs.Try.prog 26 [.int .i64 n, .sl .p (plan.map i64V)] (ftV (stepsF n plan)) := by
  refine Fn.step mixed k_R1_StepsFault ?_
  repeat' (first | refine i_len rfl ?_ | refine i_s rfl ?_ | refine i_lenm rfl rfl rfl ?_ | refine c_seq ?_ | refine c_cut0 ?_ | refine c_ops ?_ | refine i_nil ?_ | refine e_seq ?_ | refine e_block ?_ | refine c_block ?_ | refine c_skip ?_ | refine c_ret ?_ | refine c_exit ?_ | refine e_exit rfl ?_ | refine i_s0 rfl ?_ | refine c_leaf ?_ | refine i_gt rfl ?_ | refine i_gf rfl ?_ | refine i_gd rfl ?_ | refine c_t rfl ?_ | refine c_f rfl ?_ | refine i_conv rfl (by simp only [InR, List.length_map]; omega) ?_ | refine i_add rfl rfl (by simp only [InR, List.length_map]; omega) ?_ | refine i_sub rfl rfl (by simp only [InR, List.length_map]; omega) ?_ | refine i_ixm rfl rfl (by assumption) ?_ | refine i_iai rfl rfl (by omega) (by assumption) rfl ?_ | refine i_iam rfl rfl (by assumption) rfl ?_ | refine i_tk rfl rfl (by omega) ?_ | refine i_stb rfl ?_ | refine i_alloc rfl ?_ | refine i_box rfl rfl ?_ | refine i_nv rfl ?_ | refine c_node ?_ ?_ | refine i_g rfl (fun h => ?_) (fun h => ?_) | refine c_cond rfl (fun h => ?_) (fun h => ?_) | refine i_f rfl rfl (f_R1_At _ _) rfl ?_)
  · exact e_ret ⟨rfl, _, rfl, congr_ft (by rw [stepsF, if_pos (by grind)])⟩
  have h60 : ¬ plan.length > 60 := by grind
  clear h
  refine c_for plan.length (fun k => [(0, .int .i64 n), (1, .sl .p (plan.map i64V)), (4, .bptr 1664258 0), (5, .int .i64 k)]) (fun _ => [(1664258, .box (ftV okF))]) (fun k => (plan.take k).any (badStep n) = false) (by simp) ⟨by repeat (first | exact trivial | refine ⟨rfl, ?_⟩), by repeat (first | exact trivial | refine ⟨rfl, ?_⟩), rfl⟩ fun k hk hi => ?_
  repeat (first | refine i_len rfl ?_ | refine i_s rfl ?_ | refine i_lenm rfl rfl rfl ?_ | refine c_seq ?_ | refine c_cut0 ?_ | refine c_ops ?_ | refine i_nil ?_ | refine e_seq ?_ | refine e_block ?_ | refine c_block ?_ | refine c_skip ?_ | refine c_ret ?_ | refine c_exit ?_ | refine e_exit rfl ?_ | refine i_s0 rfl ?_ | refine c_leaf ?_ | refine i_gt rfl ?_ | refine i_gf rfl ?_ | refine i_gd rfl ?_ | refine c_t rfl ?_ | refine c_f rfl ?_ | refine i_conv rfl (by simp only [InR, List.length_map]; omega) ?_ | refine i_add rfl rfl (by simp only [InR, List.length_map]; omega) ?_ | refine i_sub rfl rfl (by simp only [InR, List.length_map]; omega) ?_ | refine i_ixm rfl rfl (by assumption) ?_ | refine i_iai rfl rfl (by omega) (by assumption) rfl ?_ | refine i_iam rfl rfl (by assumption) rfl ?_ | refine i_tk rfl rfl (by omega) ?_ | refine i_stb rfl ?_ | refine i_alloc rfl ?_ | refine i_box rfl rfl ?_ | refine i_nv rfl ?_)
  refine c_cond rfl (fun h => ?_) (fun h => ?_)
  · have hlt : k < plan.length := by simpa using h
    obtain ⟨x, hx⟩ := get_some hlt
    clear h
    repeat' (first | refine i_len rfl ?_ | refine i_s rfl ?_ | refine i_lenm rfl rfl rfl ?_ | refine c_seq ?_ | refine c_cut0 ?_ | refine c_ops ?_ | refine i_nil ?_ | refine e_seq ?_ | refine e_block ?_ | refine c_block ?_ | refine c_skip ?_ | refine c_ret ?_ | refine c_exit ?_ | refine e_exit rfl ?_ | refine i_s0 rfl ?_ | refine c_leaf ?_ | refine i_gt rfl ?_ | refine i_gf rfl ?_ | refine i_gd rfl ?_ | refine c_t rfl ?_ | refine c_f rfl ?_ | refine i_conv rfl (by simp only [InR, List.length_map]; omega) ?_ | refine i_add rfl rfl (by simp only [InR, List.length_map]; omega) ?_ | refine i_sub rfl rfl (by simp only [InR, List.length_map]; omega) ?_ | refine i_ixm rfl rfl (by assumption) ?_ | refine i_iai rfl rfl (by omega) (by assumption) rfl ?_ | refine i_iam rfl rfl (by assumption) rfl ?_ | refine i_tk rfl rfl (by omega) ?_ | refine i_stb rfl ?_ | refine i_alloc rfl ?_ | refine i_box rfl rfl ?_ | refine i_nv rfl ?_ | refine c_node ?_ ?_ | refine i_g rfl (fun h => ?_) (fun h => ?_) | refine c_cond rfl (fun h => ?_) (fun h => ?_) | refine i_f rfl rfl (f_R1_In _ _ _) rfl ?_ | refine i_f rfl rfl (f_R1_At _ _) rfl ?_)
    all_goals first
      | refine e_for hlt ?_ ⟨by repeat (first | exact trivial | refine ⟨rfl, ?_⟩), by repeat (first | exact trivial | refine ⟨rfl, ?_⟩), rfl⟩
        rw [take_succ_get hx, List.any_append, hi]
        simp only [List.any_cons, List.any_nil, Bool.or_false, Bool.false_or]
        unfold badStep; clear hi; grind
      | refine e_ret ⟨rfl, _, rfl, congr_ft ?_⟩
        rw [stepsF, if_neg h60, if_pos]
        exact List.any_eq_true.2 ⟨x, mem_get hx, by unfold badStep; clear hi; grind⟩
  · have hge : ¬ k < plan.length := by simpa using h
    rw [List.take_of_length_le (by omega)] at hi
    repeat' (first | refine i_len rfl ?_ | refine i_s rfl ?_ | refine i_lenm rfl rfl rfl ?_ | refine c_seq ?_ | refine c_cut0 ?_ | refine c_ops ?_ | refine i_nil ?_ | refine e_seq ?_ | refine e_block ?_ | refine c_block ?_ | refine c_skip ?_ | refine c_ret ?_ | refine c_exit ?_ | refine e_exit rfl ?_ | refine i_s0 rfl ?_ | refine c_leaf ?_ | refine i_gt rfl ?_ | refine i_gf rfl ?_ | refine i_gd rfl ?_ | refine c_t rfl ?_ | refine c_f rfl ?_ | refine i_conv rfl (by simp only [InR, List.length_map]; omega) ?_ | refine i_add rfl rfl (by simp only [InR, List.length_map]; omega) ?_ | refine i_sub rfl rfl (by simp only [InR, List.length_map]; omega) ?_ | refine i_ixm rfl rfl (by assumption) ?_ | refine i_iai rfl rfl (by omega) (by assumption) rfl ?_ | refine i_iam rfl rfl (by assumption) rfl ?_ | refine i_tk rfl rfl (by omega) ?_ | refine i_stb rfl ?_ | refine i_alloc rfl ?_ | refine i_box rfl rfl ?_ | refine i_nv rfl ?_ | refine c_node ?_ ?_ | refine i_g rfl (fun h => ?_) (fun h => ?_) | refine c_cond rfl (fun h => ?_) (fun h => ?_))
    exact e_ret ⟨rfl, _, rfl, congr_ft (by rw [stepsF, if_neg h60, hi, if_neg (by simp)]; rfl)⟩

def stFault (t : STask) (s : List Int) : Flt := if sFault t = okF then (if isSetB t.facts s = true then okF else ⟨5, -4⟩) else sFault t
def plFault (t : STask) (plan : List Int) : Flt := if sFault t = okF then stepsF t.ops.length plan else sFault t
theorem stFault_ok {t : STask} {s : List Int} (h : stFault t s = okF) : SV t ∧ IsSet t.facts s ∧ sFault t = okF := by
  unfold stFault at h
  split at h
  · rename_i h1
    split at h
    · rename_i h2; exact ⟨sFault_ok h1, isSet_of h2, h1⟩
    · cases h
  · rename_i h1; exact absurd h h1
theorem stFault_of {t : STask} {s : List Int} (h : SV t) (h2 : IsSet t.facts s) : stFault t s = okF := by
  unfold stFault; rw [if_pos (sFault_of h), if_pos (isSet_to h2)]
theorem stFault_iff (t : STask) (s : List Int) : (stFault t s).code = 0 ↔ stFault t s = okF := by
  unfold stFault
  split
  · split <;> simp [okF]
  · exact sFault_iff t
theorem plFault_ok {t : STask} {plan : List Int} (h : plFault t plan = okF) : SV t ∧ plan.length ≤ 60 ∧ (∀ x ∈ plan, 0 ≤ x ∧ x < t.ops.length) ∧ sFault t = okF := by
  unfold plFault at h
  split at h
  · rename_i h1
    obtain ⟨h2, h3⟩ := stepsF_ok h
    exact ⟨sFault_ok h1, h2, h3, h1⟩
  · rename_i h1; exact absurd h h1
theorem plFault_iff (t : STask) (plan : List Int) : (plFault t plan).code = 0 ↔ plFault t plan = okF := by
  unfold plFault
  split
  · exact stepsF_iff _ _
  · exact sFault_iff t
def c_strips_StateFault : Cmd :=
  (.seq
   (.ops [
   .op (some 2) none (.box 2560132 4 (.t 0)),
   .op (some 4) none (.alloc 2560258 (.agg [.int .i64 (0), .int .i64 (0)]))])
   (.cut
   (.seq
   (.seq
   (.ops [
   .op (some 6) none (.load true 4 (.t 2)),
   .op (some 7) none (.call .f (.c (.fn 44 [])) [.t 6]),
   .op (some 5) none (.alloc 2560322 (.agg [.int .i64 (0), .int .i64 (0)])),
   .op none none (.store 2 (.t 5) (.t 7))])
   (.cut
   (.seq
   (.ops [
   .op (some 8) none (.load true 2 (.t 5)),
   .op (some 9) none (.build [.int .i64 (0), .int .i64 (0)] []),
   .op (some 10) none (.bin .neq true [.i, .i] (.t 8) (.t 9))])
   (.cut
   (.cond (.t 10)
   (.seq
   (.ops [
   .op (some 11) none (.load true 2 (.t 5)),
   .op none none (.store 2 (.t 4) (.t 11))])
   .ret)
   .skip)))))
   (.cut
   (.seq
   (.seq
   (.ops [
   .op (some 12) none (.mov (.t 1)),
   .op (some 13) none (.faddr 0 (.t 2)),
   .op (some 14) none (.load false 1 (.t 13)),
   .op (some 15) none (.call .f (.c (.fn 51 [])) [.t 12, .t 14]),
   .op (some 16) none (.not (.t 15))])
   (.cut
   (.cond (.t 16)
   (.seq
   (.ops [
   .op (some 17) none (.build [.int .i64 (0), .int .i64 (0)] [(0, 1, .c (.int .i64 (5))), (1, 1, .c (.int .i64 (-4)))]),
   .op none none (.store 2 (.t 4) (.t 17))])
   .ret)
   .skip)))
   (.cut
   (.seq
   (.ops [
   .op (some 18) none (.build [.int .i64 (0), .int .i64 (0)] []),
   .op none none (.store 2 (.t 4) (.t 18))])
   .ret)))))))
def r_strips_StateFault : List RVar := [.cell true 2 4]
def n_strips_StateFault : Nat := 19
theorem k_strips_StateFault : chkFn Go.Proofs.Try.prog 40 n_strips_StateFault r_strips_StateFault c_strips_StateFault = true := by kernel_rfl
theorem f_strips_StateFault (t : STask) (ho : SkOk t) (s : List Int) (hs : s.length ≤ 140737488355328) : Fc Go.Proofs.Try.prog 40 [skV t, .sl .p (s.map i64V)] (ftV (stFault t s)) := by
  refine Fn.step mixed k_strips_StateFault ?_
  repeat' (first | refine i_len rfl ?_ | refine i_s rfl ?_ | refine i_lenm rfl rfl rfl ?_ | refine c_seq ?_ | refine c_cut0 ?_ | refine c_ops ?_ | refine i_nil ?_ | refine e_seq ?_ | refine e_block ?_ | refine c_block ?_ | refine c_skip ?_ | refine c_ret ?_ | refine c_exit ?_ | refine e_exit rfl ?_ | refine i_s0 rfl ?_ | refine c_leaf ?_ | refine i_gt rfl ?_ | refine i_gf rfl ?_ | refine i_gd rfl ?_ | refine c_t rfl ?_ | refine c_f rfl ?_ | refine i_conv rfl (by simp only [InR, List.length_map]; omega) ?_ | refine i_add rfl rfl (by simp only [InR, List.length_map]; omega) ?_ | refine i_sub rfl rfl (by simp only [InR, List.length_map]; omega) ?_ | refine i_ixm rfl rfl (by assumption) ?_ | refine i_iai rfl rfl (by omega) (by assumption) rfl ?_ | refine i_iam rfl rfl (by assumption) rfl ?_ | refine i_tk rfl rfl (by omega) ?_ | refine i_stb rfl ?_ | refine i_alloc rfl ?_ | refine i_box rfl rfl ?_ | refine i_nv rfl ?_ | refine c_node ?_ ?_ | refine i_g rfl (fun h => ?_) (fun h => ?_) | refine c_cond rfl (fun h => ?_) (fun h => ?_) | refine i_f rfl rfl (f_strips_Validate t ho) rfl ?_ | refine i_f rfl rfl (f_strips_IsSet s t.facts hs) rfl ?_)
  · exact e_ret ⟨rfl, _, rfl, congr_ft (by rw [stFault, if_neg (ne_ok h)])⟩
  all_goals refine e_ret ⟨rfl, _, rfl, congr_ft ?_⟩
  · rw [stFault, if_pos (eq_ok (by assumption)), if_neg (by simpa using h)]
  · rw [stFault, if_pos (eq_ok (by assumption)), if_pos (by simpa using h)]; rfl
def c_strips_PlanFault : Cmd :=
  (.seq
   (.ops [
   .op (some 2) none (.box 1728132 4 (.t 0)),
   .op (some 4) none (.alloc 1728258 (.agg [.int .i64 (0), .int .i64 (0)]))])
   (.cut
   (.seq
   (.seq
   (.ops [
   .op (some 6) none (.load true 4 (.t 2)),
   .op (some 7) none (.call .f (.c (.fn 44 [])) [.t 6]),
   .op (some 5) none (.alloc 1728322 (.agg [.int .i64 (0), .int .i64 (0)])),
   .op none none (.store 2 (.t 5) (.t 7))])
   (.cut
   (.seq
   (.ops [
   .op (some 8) none (.load true 2 (.t 5)),
   .op (some 9) none (.build [.int .i64 (0), .int .i64 (0)] []),
   .op (some 10) none (.bin .neq true [.i, .i] (.t 8) (.t 9))])
   (.cut
   (.cond (.t 10)
   (.seq
   (.ops [
   .op (some 11) none (.load true 2 (.t 5)),
   .op none none (.store 2 (.t 4) (.t 11))])
   .ret)
   .skip)))))
   (.cut
   (.seq
   (.ops [
   .op (some 12) none (.faddr 3 (.t 2)),
   .op (some 13) none (.load false 1 (.t 12)),
   .op (some 14) none (.len false (.t 13)),
   .op (some 15) none (.mov (.t 1)),
   .op (some 16) none (.call .f (.c (.fn 41 [])) [.t 14, .t 15]),
   .op none none (.store 2 (.t 4) (.t 16))])
   .ret)))))
def r_strips_PlanFault : List RVar := [.cell true 2 4]
def n_strips_PlanFault : Nat := 17
theorem k_strips_PlanFault : chkFn Go.Proofs.Try.prog 27 n_strips_PlanFault r_strips_PlanFault c_strips_PlanFault = true := by kernel_rfl
theorem f_strips_PlanFault (t : STask) (ho : SkOk t) (plan : List Int) (hl : plan.length ≤ 140737488355328) : Fc Go.Proofs.Try.prog 27 [skV t, .sl .p (plan.map i64V)] (ftV (plFault t plan)) := by
  have l5 := ho.o
  refine Fn.step mixed k_strips_PlanFault ?_
  repeat' (first | refine i_len rfl ?_ | refine i_s rfl ?_ | refine i_lenm rfl rfl rfl ?_ | refine c_seq ?_ | refine c_cut0 ?_ | refine c_ops ?_ | refine i_nil ?_ | refine e_seq ?_ | refine e_block ?_ | refine c_block ?_ | refine c_skip ?_ | refine c_ret ?_ | refine c_exit ?_ | refine e_exit rfl ?_ | refine i_s0 rfl ?_ | refine c_leaf ?_ | refine i_gt rfl ?_ | refine i_gf rfl ?_ | refine i_gd rfl ?_ | refine c_t rfl ?_ | refine c_f rfl ?_ | refine i_conv rfl (by simp only [InR, List.length_map]; omega) ?_ | refine i_add rfl rfl (by simp only [InR, List.length_map]; omega) ?_ | refine i_sub rfl rfl (by simp only [InR, List.length_map]; omega) ?_ | refine i_ixm rfl rfl (by assumption) ?_ | refine i_iai rfl rfl (by omega) (by assumption) rfl ?_ | refine i_iam rfl rfl (by assumption) rfl ?_ | refine i_tk rfl rfl (by omega) ?_ | refine i_stb rfl ?_ | refine i_alloc rfl ?_ | refine i_box rfl rfl ?_ | refine i_nv rfl ?_ | refine c_node ?_ ?_ | refine i_g rfl (fun h => ?_) (fun h => ?_) | refine c_cond rfl (fun h => ?_) (fun h => ?_) | refine i_f rfl rfl (f_strips_Validate t ho) rfl ?_ | refine i_f rfl rfl (f_strips_Steps t.ops.length plan hl) rfl ?_)
  · exact e_ret ⟨rfl, _, rfl, congr_ft (by rw [plFault, if_neg (ne_ok h)])⟩
  · exact e_ret ⟨rfl, _, rfl, congr_ft (by rw [plFault, if_pos (eq_ok h)])⟩
def c_R1_PlanFault : Cmd :=
  (.seq
   (.ops [
   .op (some 2) none (.box 512132 4 (.t 0)),
   .op (some 4) none (.alloc 512258 (.agg [.int .i64 (0), .int .i64 (0)]))])
   (.cut
   (.seq
   (.ops [
   .op (some 6) none (.load true 4 (.t 2)),
   .op (some 7) none (.call .f (.c (.fn 25 [])) [.t 6]),
   .op (some 5) none (.alloc 512322 (.agg [.int .i64 (0), .int .i64 (0)])),
   .op none none (.store 2 (.t 5) (.t 7))])
   (.cut
   (.seq
   (.seq
   (.ops [
   .op (some 8) none (.faddr 0 (.t 5)),
   .op (some 9) none (.load false 1 (.t 8)),
   .op (some 10) none (.bin .eql false [.i] (.t 9) (.c (.int .i64 (0))))])
   (.cut
   (.cond (.t 10)
   (.ops [
   .op (some 11) none (.faddr 3 (.t 2)),
   .op (some 12) none (.load false 1 (.t 11)),
   .op (some 13) none (.len false (.t 12)),
   .op (some 14) none (.mov (.t 1)),
   .op (some 15) none (.call .f (.c (.fn 26 [])) [.t 13, .t 14]),
   .op none none (.store 2 (.t 5) (.t 15))])
   .skip)))
   (.cut
   (.seq
   (.ops [
   .op (some 16) none (.load true 2 (.t 5)),
   .op none none (.store 2 (.t 4) (.t 16))])
   .ret)))))))
def r_R1_PlanFault : List RVar := [.cell true 2 4]
def n_R1_PlanFault : Nat := 17
theorem k_R1_PlanFault : chkFn Go.Proofs.Try.prog 8 n_R1_PlanFault r_R1_PlanFault c_R1_PlanFault = true := by kernel_rfl
theorem f_R1_PlanFault (t : STask) (ho : SkOk t) (plan : List Int) (hl : plan.length ≤ 140737488355328) : Fc Go.Proofs.Try.prog 8 [skV t, .sl .p (plan.map i64V)] (ftV (plFault t plan)) := by
  have hF := f_R1_TaskFault t ho
  have hS := f_R1_StepsFault t.ops.length ho.o plan hl
  by_cases h1 : sFault t = okF
  · rw [h1] at hF
    refine Fn.step mixed k_R1_PlanFault ?_
    repeat' (first | refine i_len rfl ?_ | refine i_s rfl ?_ | refine i_lenm rfl rfl rfl ?_ | refine c_seq ?_ | refine c_cut0 ?_ | refine c_ops ?_ | refine i_nil ?_ | refine e_seq ?_ | refine e_block ?_ | refine c_block ?_ | refine c_skip ?_ | refine c_ret ?_ | refine c_exit ?_ | refine e_exit rfl ?_ | refine i_s0 rfl ?_ | refine c_leaf ?_ | refine i_gt rfl ?_ | refine i_gf rfl ?_ | refine i_gd rfl ?_ | refine c_t rfl ?_ | refine c_f rfl ?_ | refine i_conv rfl (by simp only [InR, List.length_map]; omega) ?_ | refine i_add rfl rfl (by simp only [InR, List.length_map]; omega) ?_ | refine i_sub rfl rfl (by simp only [InR, List.length_map]; omega) ?_ | refine i_ixm rfl rfl (by assumption) ?_ | refine i_iai rfl rfl (by omega) (by assumption) rfl ?_ | refine i_iam rfl rfl (by assumption) rfl ?_ | refine i_tk rfl rfl (by omega) ?_ | refine i_stb rfl ?_ | refine i_alloc rfl ?_ | refine i_box rfl rfl ?_ | refine i_nv rfl ?_ | refine c_node ?_ ?_ | refine i_g rfl (fun h => ?_) (fun h => ?_) | refine c_cond rfl (fun h => ?_) (fun h => ?_) | refine i_f rfl rfl (hF) rfl ?_ | refine i_f rfl rfl (hS) rfl ?_)
    exact e_ret ⟨rfl, _, rfl, congr_ft (by rw [plFault, if_pos h1])⟩
  · have hne : (sFault t).code ≠ 0 := fun h => h1 ((sFault_iff t).1 h)
    refine Fn.step mixed k_R1_PlanFault ?_
    repeat' (first | refine i_len rfl ?_ | refine i_s rfl ?_ | refine i_lenm rfl rfl rfl ?_ | refine c_seq ?_ | refine c_cut0 ?_ | refine c_ops ?_ | refine i_nil ?_ | refine e_seq ?_ | refine e_block ?_ | refine c_block ?_ | refine c_skip ?_ | refine c_ret ?_ | refine c_exit ?_ | refine e_exit rfl ?_ | refine i_s0 rfl ?_ | refine c_leaf ?_ | refine i_gt rfl ?_ | refine i_gf rfl ?_ | refine i_gd rfl ?_ | refine c_t rfl ?_ | refine c_f rfl ?_ | refine i_conv rfl (by simp only [InR, List.length_map]; omega) ?_ | refine i_add rfl rfl (by simp only [InR, List.length_map]; omega) ?_ | refine i_sub rfl rfl (by simp only [InR, List.length_map]; omega) ?_ | refine i_ixm rfl rfl (by assumption) ?_ | refine i_iai rfl rfl (by omega) (by assumption) rfl ?_ | refine i_iam rfl rfl (by assumption) rfl ?_ | refine i_tk rfl rfl (by omega) ?_ | refine i_stb rfl ?_ | refine i_alloc rfl ?_ | refine i_box rfl rfl ?_ | refine i_nv rfl ?_ | refine c_node ?_ ?_ | refine i_g rfl (fun h => ?_) (fun h => ?_) | refine c_cond rfl (fun h => ?_) (fun h => ?_) | refine i_f rfl rfl (hF) rfl ?_)
    all_goals first
      | exact e_ret ⟨rfl, _, rfl, congr_ft (by rw [plFault, if_neg h1])⟩
      | (exfalso; clear hF hS ho; simp at *; omega)
/-- A list whose first i elements are all smaller than what is still looked for. -/
def lowB (s part : List Int) (i k : Nat) : Prop := ∀ j x y, j < i → s[j]? = some x → k ≤ part.length → ∀ k', k ≤ k' → part[k']? = some y → x < y
def c_strips_Contains : Cmd :=
  (.seq
   (.ops [
   .op (some 4) none (.mov (.c (.bool false)))])
   (.cut
   (.seq
   (.ops [
   .op (some 5) none (.mov (.c (.int .i64 (0))))])
   (.cut
   (.seq
   (.seq
   (.ops [
   .op (some 8) none (.mov (.t 1)),
   .op (some 9) none (.len false (.t 8)),
   .op (some 10) none (.mov (.c (.int .i64 (0))))])
   (.cut
   (.block 0
   (.loop
   (.seq
   (.ops [
   .op (some 11) none (.bin .lss false [] (.t 10) (.t 9))])
   (.cut
   (.seq
   (.cond (.t 11)
   .skip
   (.exit 0))
   (.cut
   (.seq
   (.block 1
   (.seq
   (.ops [
   .op (some 12) none (.iaddr 1 (.t 8) (.t 10)),
   .op (some 13) none (.load false 1 (.t 12)),
   .op (some 7) none (.mov (.t 13))])
   (.cut
   (.seq
   (.block 2
   (.loop
   (.seq
   (.seq
   (.ops [
   .op (some 14) none (.mov (.t 5)),
   .op (some 15) none (.mov (.t 0)),
   .op (some 16) none (.len false (.t 15)),
   .op (some 17) none (.bin .lss false [] (.t 14) (.t 16)),
   .op (some 18) none (.mov (.t 17)),
   .op (some 19) (some (18, true)) (.mov (.t 0)),
   .op (some 20) (some (18, true)) (.mov (.t 5)),
   .op (some 21) (some (18, true)) (.iaddr 1 (.t 19) (.t 20)),
   .op (some 22) (some (18, true)) (.load false 1 (.t 21)),
   .op (some 23) (some (18, true)) (.mov (.t 7)),
   .op (some 24) (some (18, true)) (.bin .lss false [] (.t 22) (.t 23)),
   .op (some 25) none (.pick (.t 18) (.t 24) (.c (.bool false)))])
   (.cut
   (.cond (.t 25)
   .skip
   (.exit 2))))
   (.cut
   (.block 3
   (.ops [
   .op (some 26) none (.mov (.t 5)),
   .op (some 27) none (.bin .add false [] (.t 26) (.c (.int .i64 (1)))),
   .op (some 5) none (.mov (.t 27))]))))))
   (.cut
   (.seq
   (.ops [
   .op (some 28) none (.mov (.t 5)),
   .op (some 29) none (.mov (.t 0)),
   .op (some 30) none (.len false (.t 29)),
   .op (some 31) none (.bin .eql false [.i] (.t 28) (.t 30)),
   .op (some 32) none (.mov (.t 31)),
   .op (some 33) (some (32, false)) (.mov (.t 0)),
   .op (some 34) (some (32, false)) (.mov (.t 5)),
   .op (some 35) (some (32, false)) (.iaddr 1 (.t 33) (.t 34)),
   .op (some 36) (some (32, false)) (.load false 1 (.t 35)),
   .op (some 37) (some (32, false)) (.mov (.t 7)),
   .op (some 38) (some (32, false)) (.bin .neq false [.i] (.t 36) (.t 37)),
   .op (some 39) none (.pick (.t 32) (.c (.bool true)) (.t 38))])
   (.cut
   (.cond (.t 39)
   (.seq
   (.ops [
   .op (some 4) none (.mov (.c (.bool false)))])
   .ret)
   .skip))))))))
   (.cut
   (.ops [
   .op (some 40) none (.bin .add false [] (.t 10) (.c (.int .i64 (1)))),
   .op (some 10) none (.mov (.t 40))])))))))))))
   (.cut
   (.seq
   (.ops [
   .op (some 4) none (.mov (.c (.bool true)))])
   .ret)))))))
def r_strips_Contains : List RVar := [.tmp 4]
def n_strips_Contains : Nat := 41
theorem k_strips_Contains : chkFn Go.Proofs.Try.prog 29 n_strips_Contains r_strips_Contains c_strips_Contains = true := by kernel_rfl
theorem f_strips_Contains (s part : List Int) (hl : s.length ≤ 140737488355328) (hl2 : part.length ≤ 140737488355328) (hs : SS s) (hp : SS part) : Fc Go.Proofs.Try.prog 29 [.sl .p (s.map i64V), .sl .p (part.map i64V)] (.bool (inclB part s)) := by
  refine Fn.step mixed k_strips_Contains ?_
  repeat' (first | refine i_len rfl ?_ | refine i_s rfl ?_ | refine i_lenm rfl rfl rfl ?_ | refine c_seq ?_ | refine c_cut0 ?_ | refine c_ops ?_ | refine i_nil ?_ | refine e_seq ?_ | refine e_block ?_ | refine c_block ?_ | refine c_skip ?_ | refine c_ret ?_ | refine c_exit ?_ | refine e_exit rfl ?_ | refine i_s0 rfl ?_ | refine c_leaf ?_ | refine i_gt rfl ?_ | refine i_gf rfl ?_ | refine i_gd rfl ?_ | refine c_t rfl ?_ | refine c_f rfl ?_ | refine i_conv rfl (by simp only [InR, List.length_map]; omega) ?_ | refine i_add rfl rfl (by simp only [InR, List.length_map]; omega) ?_ | refine i_sub rfl rfl (by simp only [InR, List.length_map]; omega) ?_ | refine i_ixm rfl rfl (by assumption) ?_ | refine i_iai rfl rfl (by omega) (by assumption) rfl ?_ | refine i_iam rfl rfl (by assumption) rfl ?_ | refine i_tk rfl rfl (by omega) ?_ | refine i_stb rfl ?_ | refine i_alloc rfl ?_ | refine i_box rfl rfl ?_ | refine i_nv rfl ?_ | refine c_node ?_ ?_ | refine i_g rfl (fun h => ?_) (fun h => ?_) | refine c_cond rfl (fun h => ?_) (fun h => ?_))
  refine c_lp (ι := Nat × Nat) (fun p => [(0, .sl .p (s.map i64V)), (5, .int .i64 p.2), (8, .sl .p (part.map i64V)), (9, .int .i64 part.length), (10, .int .i64 p.1)]) (fun _ => [])
    (fun p => p.1 ≤ part.length ∧ p.2 ≤ s.length ∧ (∀ j, j < p.1 → ∀ y, part[j]? = some y → y ∈ s) ∧ (∀ j x, j < p.2 → s[j]? = some x → ∀ k' y, p.1 ≤ k' → part[k']? = some y → x < y)) (fun p => part.length - p.1) (0, 0) ⟨Nat.zero_le _, Nat.zero_le _, all_zero, fun j x h => by omega⟩ ⟨by repeat (first | exact trivial | refine ⟨rfl, ?_⟩), by repeat (first | exact trivial | refine ⟨rfl, ?_⟩), rfl⟩ fun p hi => ?_
  obtain ⟨k, i⟩ := p
  obtain ⟨h1, h2, h3, h4⟩ := hi
  simp only at h1 h2 h3 h4
  repeat (first | refine i_len rfl ?_ | refine i_s rfl ?_ | refine i_lenm rfl rfl rfl ?_ | refine c_seq ?_ | refine c_cut0 ?_ | refine c_ops ?_ | refine i_nil ?_ | refine e_seq ?_ | refine e_block ?_ | refine c_block ?_ | refine c_skip ?_ | refine c_ret ?_ | refine c_exit ?_ | refine e_exit rfl ?_ | refine i_s0 rfl ?_ | refine c_leaf ?_ | refine i_gt rfl ?_ | refine i_gf rfl ?_ | refine i_gd rfl ?_ | refine c_t rfl ?_ | refine c_f rfl ?_ | refine i_conv rfl (by simp only [InR, List.length_map]; omega) ?_ | refine i_add rfl rfl (by simp only [InR, List.length_map]; omega) ?_ | refine i_sub rfl rfl (by simp only [InR, List.length_map]; omega) ?_ | refine i_ixm rfl rfl (by assumption) ?_ | refine i_iai rfl rfl (by omega) (by assumption) rfl ?_ | refine i_iam rfl rfl (by assumption) rfl ?_ | refine i_tk rfl rfl (by omega) ?_ | refine i_stb rfl ?_ | refine i_alloc rfl ?_ | refine i_box rfl rfl ?_ | refine i_nv rfl ?_)
  refine c_cond rfl (fun h => ?_) (fun h => ?_)
  · have hlt : k < part.length := by simpa using h
    obtain ⟨y, hy⟩ := get_some hlt
    clear h
    repeat (first | refine i_len rfl ?_ | refine i_s rfl ?_ | refine i_lenm rfl rfl rfl ?_ | refine c_seq ?_ | refine c_cut0 ?_ | refine c_ops ?_ | refine i_nil ?_ | refine e_seq ?_ | refine e_block ?_ | refine c_block ?_ | refine c_skip ?_ | refine c_ret ?_ | refine c_exit ?_ | refine e_exit rfl ?_ | refine i_s0 rfl ?_ | refine c_leaf ?_ | refine i_gt rfl ?_ | refine i_gf rfl ?_ | refine i_gd rfl ?_ | refine c_t rfl ?_ | refine c_f rfl ?_ | refine i_conv rfl (by simp only [InR, List.length_map]; omega) ?_ | refine i_add rfl rfl (by simp only [InR, List.length_map]; omega) ?_ | refine i_sub rfl rfl (by simp only [InR, List.length_map]; omega) ?_ | refine i_ixm rfl rfl (by assumption) ?_ | refine i_iai rfl rfl (by omega) (by assumption) rfl ?_ | refine i_iam rfl rfl (by assumption) rfl ?_ | refine i_tk rfl rfl (by omega) ?_ | refine i_stb rfl ?_ | refine i_alloc rfl ?_ | refine i_box rfl rfl ?_ | refine i_nv rfl ?_)
    refine c_lp (ι := Nat) (fun i => [(0, .sl .p (s.map i64V)), (5, .int .i64 i), (7, .int .i64 y), (8, .sl .p (part.map i64V)), (9, .int .i64 part.length), (10, .int .i64 k)]) (fun _ => [])
      (fun i => i ≤ s.length ∧ (∀ j x, j < i → s[j]? = some x → ∀ k' y, k ≤ k' → part[k']? = some y → x < y)) (fun i => s.length - i) i ⟨h2, h4⟩ ⟨by repeat (first | exact trivial | refine ⟨rfl, ?_⟩), by repeat (first | exact trivial | refine ⟨rfl, ?_⟩), rfl⟩ fun i hi => ?_
    clear h2 h4
    obtain ⟨h2, h4⟩ := hi
    by_cases hil : i < s.length
    · obtain ⟨x, hx⟩ := get_some hil
      have hil' : (i : Int) < s.length := by omega
      by_cases hxy : x < y
      · repeat' (first | refine i_len rfl ?_ | refine i_s rfl ?_ | refine i_lenm rfl rfl rfl ?_ | refine c_seq ?_ | refine c_cut0 ?_ | refine c_ops ?_ | refine i_nil ?_ | refine e_seq ?_ | refine e_block ?_ | refine c_block ?_ | refine c_skip ?_ | refine c_ret ?_ | refine c_exit ?_ | refine e_exit rfl ?_ | refine i_s0 rfl ?_ | refine c_leaf ?_ | refine i_gt rfl ?_ | refine i_gf rfl ?_ | refine i_gd rfl ?_ | refine c_t rfl ?_ | refine c_f rfl ?_ | refine i_conv rfl (by simp only [InR, List.length_map]; omega) ?_ | refine i_add rfl rfl (by simp only [InR, List.length_map]; omega) ?_ | refine i_sub rfl rfl (by simp only [InR, List.length_map]; omega) ?_ | refine i_ixm rfl rfl (by assumption) ?_ | refine i_iai rfl rfl (by omega) (by assumption) rfl ?_ | refine i_iam rfl rfl (by assumption) rfl ?_ | refine i_tk rfl rfl (by omega) ?_ | refine i_stb rfl ?_ | refine i_alloc rfl ?_ | refine i_box rfl rfl ?_ | refine i_nv rfl ?_ | refine c_node ?_ ?_ | refine i_g rfl (fun h => ?_) (fun h => ?_) | refine c_cond rfl (fun h => ?_) (fun h => ?_))
        all_goals first
          | (refine e_lp (i + 1) ⟨by omega, fun j x' hj hx' k' y' hk' hy' => ?_⟩ (by omega) ⟨by repeat (first | exact trivial | refine ⟨rfl, ?_⟩), by repeat (first | exact trivial | refine ⟨rfl, ?_⟩), rfl⟩
             by_cases e : j = i
             · subst e
               rw [hx] at hx'; cases hx'
               by_cases e2 : k' = k
               · subst e2; rw [hy] at hy'; cases hy'; exact hxy
               · have := ss_idx hp hy hy' (by omega); omega
             · exact h4 j x' (by omega) hx' k' y' hk' hy')
          | (exfalso; clear h3 h4 hs hp; simp at *; omega)
      · by_cases e : x = y
        · subst e
          repeat' (first | refine i_len rfl ?_ | refine i_s rfl ?_ | refine i_lenm rfl rfl rfl ?_ | refine c_seq ?_ | refine c_cut0 ?_ | refine c_ops ?_ | refine i_nil ?_ | refine e_seq ?_ | refine e_block ?_ | refine c_block ?_ | refine c_skip ?_ | refine c_ret ?_ | refine c_exit ?_ | refine e_exit rfl ?_ | refine i_s0 rfl ?_ | refine c_leaf ?_ | refine i_gt rfl ?_ | refine i_gf rfl ?_ | refine i_gd rfl ?_ | refine c_t rfl ?_ | refine c_f rfl ?_ | refine i_conv rfl (by simp only [InR, List.length_map]; omega) ?_ | refine i_add rfl rfl (by simp only [InR, List.length_map]; omega) ?_ | refine i_sub rfl rfl (by simp only [InR, List.length_map]; omega) ?_ | refine i_ixm rfl rfl (by assumption) ?_ | refine i_iai rfl rfl (by omega) (by assumption) rfl ?_ | refine i_iam rfl rfl (by assumption) rfl ?_ | refine i_tk rfl rfl (by omega) ?_ | refine i_stb rfl ?_ | refine i_alloc rfl ?_ | refine i_box rfl rfl ?_ | refine i_nv rfl ?_ | refine c_node ?_ ?_ | refine i_g rfl (fun h => ?_) (fun h => ?_) | refine c_cond rfl (fun h => ?_) (fun h => ?_))
          all_goals first
            | (refine e_lp (k + 1, i) ⟨by simp only; omega, h2, ?_, fun j x' hj hx' k' y' hk' hy' => h4 j x' hj hx' k' y' (by simp only at hk'; omega) hy'⟩ (by simp only; omega) ⟨by repeat (first | exact trivial | refine ⟨rfl, ?_⟩), by repeat (first | exact trivial | refine ⟨rfl, ?_⟩), rfl⟩
               intro j hj y' hy'
               by_cases e2 : j = k
               · subst e2; rw [hy] at hy'; cases hy'; exact mem_get hx
               · exact h3 j (by simp only at hj; omega) y' hy')
            | (exfalso; clear h3 h4 hs hp; simp at *; omega)
            | (exfalso; clear h3 h4 hs hp; simp at *; done)
        · have hnm : y ∉ s := fun hm => by
            obtain ⟨j, hj, e2⟩ := List.getElem_of_mem hm
            have hg : s[j]? = some y := by rw [← e2]; exact List.getElem?_eq_getElem hj
            by_cases c : j < i
            · have := h4 j y c hg k y (Nat.le_refl _) hy; omega
            · by_cases c2 : j = i
              · subst c2; rw [hx] at hg; cases hg; exact e rfl
              · have := ss_idx hs hx hg (by omega); omega
          repeat' (first | refine i_len rfl ?_ | refine i_s rfl ?_ | refine i_lenm rfl rfl rfl ?_ | refine c_seq ?_ | refine c_cut0 ?_ | refine c_ops ?_ | refine i_nil ?_ | refine e_seq ?_ | refine e_block ?_ | refine c_block ?_ | refine c_skip ?_ | refine c_ret ?_ | refine c_exit ?_ | refine e_exit rfl ?_ | refine i_s0 rfl ?_ | refine c_leaf ?_ | refine i_gt rfl ?_ | refine i_gf rfl ?_ | refine i_gd rfl ?_ | refine c_t rfl ?_ | refine c_f rfl ?_ | refine i_conv rfl (by simp only [InR, List.length_map]; omega) ?_ | refine i_add rfl rfl (by simp only [InR, List.length_map]; omega) ?_ | refine i_sub rfl rfl (by simp only [InR, List.length_map]; omega) ?_ | refine i_ixm rfl rfl (by assumption) ?_ | refine i_iai rfl rfl (by omega) (by assumption) rfl ?_ | refine i_iam rfl rfl (by assumption) rfl ?_ | refine i_tk rfl rfl (by omega) ?_ | refine i_stb rfl ?_ | refine i_alloc rfl ?_ | refine i_box rfl rfl ?_ | refine i_nv rfl ?_ | refine c_node ?_ ?_ | refine i_g rfl (fun h => ?_) (fun h => ?_) | refine c_cond rfl (fun h => ?_) (fun h => ?_))
          all_goals first
            | (refine e_ret ⟨rfl, _, rfl, congrArg V.bool ?_⟩
               unfold inclB
               rw [List.all_eq_false]
               exact ⟨y, mem_get hy, by simpa using hnm⟩)
            | (exfalso; clear h3 h4 hs hp hnm; simp at *; omega)
            | (exfalso; clear h3 h4 hs hp hnm; simp at *; done)
    · have hnm : y ∉ s := fun hm => by
        obtain ⟨j, hj, e2⟩ := List.getElem_of_mem hm
        have hg : s[j]? = some y := by rw [← e2]; exact List.getElem?_eq_getElem hj
        have := h4 j y (by omega) hg k y (Nat.le_refl _) hy
        omega
      have hie : i = s.length := by omega
      repeat' (first | refine i_len rfl ?_ | refine i_s rfl ?_ | refine i_lenm rfl rfl rfl ?_ | refine c_seq ?_ | refine c_cut0 ?_ | refine c_ops ?_ | refine i_nil ?_ | refine e_seq ?_ | refine e_block ?_ | refine c_block ?_ | refine c_skip ?_ | refine c_ret ?_ | refine c_exit ?_ | refine e_exit rfl ?_ | refine i_s0 rfl ?_ | refine c_leaf ?_ | refine i_gt rfl ?_ | refine i_gf rfl ?_ | refine i_gd rfl ?_ | refine c_t rfl ?_ | refine c_f rfl ?_ | refine i_conv rfl (by simp only [InR, List.length_map]; omega) ?_ | refine i_add rfl rfl (by simp only [InR, List.length_map]; omega) ?_ | refine i_sub rfl rfl (by simp only [InR, List.length_map]; omega) ?_ | refine i_ixm rfl rfl (by assumption) ?_ | refine i_iai rfl rfl (by omega) (by assumption) rfl ?_ | refine i_iam rfl rfl (by assumption) rfl ?_ | refine i_tk rfl rfl (by omega) ?_ | refine i_stb rfl ?_ | refine i_alloc rfl ?_ | refine i_box rfl rfl ?_ | refine i_nv rfl ?_ | refine c_node ?_ ?_ | refine i_g rfl (fun h => ?_) (fun h => ?_) | refine c_cond rfl (fun h => ?_) (fun h => ?_))
      all_goals first
        | (refine e_ret ⟨rfl, _, rfl, congrArg V.bool ?_⟩
           unfold inclB
           rw [List.all_eq_false]
           exact ⟨y, mem_get hy, by simpa using hnm⟩)
        | (exfalso; clear h3 h4 hs hp hnm; simp at *; omega)
        | (exfalso; clear h3 h4 hs hp hnm; simp at *; done)
  · have hge : ¬ k < part.length := by simpa using h
    repeat' (first | refine i_len rfl ?_ | refine i_s rfl ?_ | refine i_lenm rfl rfl rfl ?_ | refine c_seq ?_ | refine c_cut0 ?_ | refine c_ops ?_ | refine i_nil ?_ | refine e_seq ?_ | refine e_block ?_ | refine c_block ?_ | refine c_skip ?_ | refine c_ret ?_ | refine c_exit ?_ | refine e_exit rfl ?_ | refine i_s0 rfl ?_ | refine c_leaf ?_ | refine i_gt rfl ?_ | refine i_gf rfl ?_ | refine i_gd rfl ?_ | refine c_t rfl ?_ | refine c_f rfl ?_ | refine i_conv rfl (by simp only [InR, List.length_map]; omega) ?_ | refine i_add rfl rfl (by simp only [InR, List.length_map]; omega) ?_ | refine i_sub rfl rfl (by simp only [InR, List.length_map]; omega) ?_ | refine i_ixm rfl rfl (by assumption) ?_ | refine i_iai rfl rfl (by omega) (by assumption) rfl ?_ | refine i_iam rfl rfl (by assumption) rfl ?_ | refine i_tk rfl rfl (by omega) ?_ | refine i_stb rfl ?_ | refine i_alloc rfl ?_ | refine i_box rfl rfl ?_ | refine i_nv rfl ?_ | refine c_node ?_ ?_ | refine i_g rfl (fun h => ?_) (fun h => ?_) | refine c_cond rfl (fun h => ?_) (fun h => ?_))
    refine e_ret ⟨rfl, _, rfl, congrArg V.bool ?_⟩
    unfold inclB
    rw [List.all_eq_true]
    intro y hy
    obtain ⟨j, hj, e⟩ := List.getElem_of_mem hy
    exact decide_eq_true (h3 j (by omega) y (by rw [← e]; exact List.getElem?_eq_getElem hj))
end Hm
end

section
/- Contracts: states after operators. -/
namespace Hm
open Go
set_option maxRecDepth 100000
set_option maxHeartbeats 2000000
set_option linter.unusedSimpArgs false
set_option linter.unusedVariables false
theorem dd_get {l : List Int} {m i : Nat} (hi : (ddK l m).length ≤ i) : (ddK l m ++ l.drop (ddK l m).length)[i]? = l[i]? := by
  rw [List.getElem?_append_right hi, List.getElem?_drop]
  congr 1
  omega
theorem dd_set {l : List Int} {m : Nat} {x : Int} (hd : (ddK l m).length < l.length) : (ddK l m ++ l.drop (ddK l m).length).set (ddK l m).length x = (ddK l m ++ [x]) ++ l.drop (ddK l m ++ [x]).length := by
  rw [List.set_append_right _ _ (Nat.le_refl _), Nat.sub_self]
  have : l.drop (ddK l m).length = l[(ddK l m).length] :: l.drop ((ddK l m).length + 1) := List.drop_eq_getElem_cons hd
  rw [this, List.set_cons_zero]
  simp
def c_slices_Compact_int : Cmd :=
  (.seq
   (.ops [
   .op (some 2) none (.mov (.c (.sl .nil [])))])
   (.cut
   (.seq
   (.seq
   (.ops [
   .op (some 6) none (.mov (.t 0)),
   .op (some 7) none (.len false (.t 6)),
   .op (some 8) none (.bin .lss false [] (.t 7) (.c (.int .i64 (2))))])
   (.cut
   (.cond (.t 8)
   (.seq
   (.ops [
   .op (some 9) none (.mov (.t 0)),
   .op (some 2) none (.mov (.t 9))])
   .ret)
   .skip)))
   (.cut
   (.seq
   (.seq
   (.ops [
   .op (some 3) none (.mov (.c (.int .i64 (1))))])
   (.cut
   (.block 0
   (.loop
   (.seq
   (.seq
   (.ops [
   .op (some 10) none (.mov (.t 3)),
   .op (some 11) none (.mov (.t 0)),
   .op (some 12) none (.len false (.t 11)),
   .op (some 13) none (.bin .lss false [] (.t 10) (.t 12))])
   (.cut
   (.cond (.t 13)
   .skip
   (.exit 0))))
   (.cut
   (.seq
   (.block 1
   (.seq
   (.ops [
   .op (some 16) none (.mov (.t 0)),
   .op (some 17) none (.mov (.t 3)),
   .op (some 18) none (.iaddr 1 (.t 16) (.t 17)),
   .op (some 19) none (.load false 1 (.t 18)),
   .op (some 20) none (.mov (.t 0)),
   .op (some 21) none (.mov (.t 3)),
   .op (some 22) none (.bin .sub false [] (.t 21) (.c (.int .i64 (1)))),
   .op (some 23) none (.iaddr 1 (.t 20) (.t 22)),
   .op (some 24) none (.load false 1 (.t 23)),
   .op (some 25) none (.bin .eql false [.i] (.t 19) (.t 24))])
   (.cut
   (.cond (.t 25)
   (.seq
   (.ops [
   .op (some 26) none (.mov (.t 0)),
   .op (some 27) none (.mov (.t 3)),
   .op (some 28) none (.slice false 1 (.t 26) (some (.t 27)) none),
   .op (some 4) none (.mov (.t 28))])
   (.cut
   (.seq
   (.seq
   (.ops [
   .op (some 5) none (.mov (.c (.int .i64 (1))))])
   (.cut
   (.block 2
   (.loop
   (.seq
   (.seq
   (.ops [
   .op (some 29) none (.mov (.t 5)),
   .op (some 30) none (.mov (.t 4)),
   .op (some 31) none (.len false (.t 30)),
   .op (some 32) none (.bin .lss false [] (.t 29) (.t 31))])
   (.cut
   (.cond (.t 32)
   .skip
   (.exit 2))))
   (.cut
   (.seq
   (.block 3
   (.seq
   (.ops [
   .op (some 35) none (.mov (.t 4)),
   .op (some 36) none (.mov (.t 5)),
   .op (some 37) none (.iaddr 1 (.t 35) (.t 36)),
   .op (some 38) none (.load false 1 (.t 37)),
   .op (some 39) none (.mov (.t 4)),
   .op (some 40) none (.mov (.t 5)),
   .op (some 41) none (.bin .sub false [] (.t 40) (.c (.int .i64 (1)))),
   .op (some 42) none (.iaddr 1 (.t 39) (.t 41)),
   .op (some 43) none (.load false 1 (.t 42)),
   .op (some 44) none (.bin .neq false [.i] (.t 38) (.t 43))])
   (.cut
   (.cond (.t 44)
   (.seq
   (.ops [
   .op (some 45) none (.mov (.t 0)),
   .op (some 46) none (.mov (.t 3)),
   .op (some 47) none (.mov (.t 4)),
   .op (some 48) none (.mov (.t 5)),
   .op (some 49) none (.iaddr 1 (.t 47) (.t 48)),
   .op (some 50) none (.load false 1 (.t 49)),
   .op (some 51) none (.iaddr 1 (.t 45) (.t 46)),
   .op none none (.store 1 (.t 51) (.t 50))])
   (.cut
   (.ops [
   .op (some 52) none (.mov (.t 3)),
   .op (some 53) none (.bin .add false [] (.t 52) (.c (.int .i64 (1)))),
   .op (some 3) none (.mov (.t 53))])))
   .skip))))
   (.cut
   (.ops [
   .op (some 33) none (.mov (.t 5)),
   .op (some 34) none (.bin .add false [] (.t 33) (.c (.int .i64 (1)))),
   .op (some 5) none (.mov (.t 34))])))))))))
   (.cut
   (.seq
   (.ops [
   .op (some 54) none (.mov (.t 0)),
   .op (some 55) none (.mov (.t 3)),
   .op (some 56) none (.slice false 1 (.t 54) (some (.t 55)) none),
   .op none none (.clear 1 8 (.int .i64 (0)) (.t 56))])
   (.cut
   (.seq
   (.ops [
   .op (some 57) none (.mov (.t 0)),
   .op (some 58) none (.mov (.t 3)),
   .op (some 59) none (.slice false 1 (.t 57) none (some (.t 58))),
   .op (some 2) none (.mov (.t 59))])
   .ret)))))))
   .skip))))
   (.cut
   (.ops [
   .op (some 14) none (.mov (.t 3)),
   .op (some 15) none (.bin .add false [] (.t 14) (.c (.int .i64 (1)))),
   .op (some 3) none (.mov (.t 15))])))))))))
   (.cut
   (.seq
   (.ops [
   .op (some 60) none (.mov (.t 0)),
   .op (some 2) none (.mov (.t 60))])
   .ret)))))))
def r_slices_Compact_int : List RVar := [.tmp 2]
def n_slices_Compact_int : Nat := 61
theorem k_slices_Compact_int : chkFn Go.Proofs.Try.prog 59 n_slices_Compact_int r_slices_Compact_int c_slices_Compact_int = true := by kernel_rfl
theorem c_Compact {G : Type} {H : HT G} (gen : Nat) (l : List Int) (hl : l.length ≤ 17592186044416) (σ : Store) (g : G) (hσ : σ 3456449 = .arr gen (l.map i64V)) (hp : ∀ nm, σ nm ≠ .unused → nm ∈ [3456449]) :
    Cc Go.Proofs.Try.prog H 59 [.msl 3456449 gen 0 l.length] [3456449] σ g fun v σ' g' => (∃ rows, v = .msl 3456449 gen 0 (compL l).length ∧ σ' = stOf [(3456449, .arr gen rows)] ∧ rows.take (compL l).length = (compL l).map i64V) ∧ g' = g := by
  refine CT.step _ mixed k_slices_Compact_int hp fun hM => ?_
  refine c_seq ?_
  refine c_ops ?_
  refine i_s rfl ?_
  refine i_nil ?_
  refine e_seq ?_
  refine c_cut [(0, .msl 3456449 gen 0 l.length)] [(3456449, .arr gen (l.map i64V))] ⟨⟨rfl, trivial⟩, ⟨hσ, trivial⟩, rfl⟩ ?_
  have fin : compL l = l → ∃ rows, V.msl 3456449 gen 0 l.length = .msl 3456449 gen 0 (compL l).length ∧ stOf [(3456449, .arr gen (l.map i64V))] = stOf [(3456449, .arr gen rows)] ∧ rows.take (compL l).length = (compL l).map i64V := fun e => ⟨l.map i64V, by rw [e], rfl, by rw [e, List.take_of_length_le (by simp)]⟩
  repeat (first | refine i_len rfl ?_ | refine i_s rfl ?_ | refine i_lenm rfl rfl rfl ?_ | refine c_seq ?_ | refine c_cut0 ?_ | refine c_ops ?_ | refine i_nil ?_ | refine e_seq ?_ | refine e_block ?_ | refine c_block ?_ | refine c_skip ?_ | refine c_ret ?_ | refine c_exit ?_ | refine e_exit rfl ?_ | refine i_s0 rfl ?_ | refine c_leaf ?_ | refine i_gt rfl ?_ | refine i_gf rfl ?_ | refine i_gd rfl ?_ | refine c_t rfl ?_ | refine c_f rfl ?_ | refine i_conv rfl (by simp only [InR, List.length_map]; omega) ?_ | refine i_add rfl rfl (by simp only [InR, List.length_map]; omega) ?_ | refine i_sub rfl rfl (by simp only [InR, List.length_map]; omega) ?_ | refine i_ixm rfl rfl (by assumption) ?_ | refine i_iai rfl rfl (by omega) (by assumption) rfl ?_ | refine i_iam rfl rfl (by assumption) rfl ?_ | refine i_tk rfl rfl (by omega) ?_ | refine i_stb rfl ?_ | refine i_alloc rfl ?_ | refine i_box rfl rfl ?_ | refine i_nv rfl ?_)
  refine c_cond rfl (fun h => ?_) (fun h => ?_)
  · have h2 : l.length < 2 := by have : (l.length : Int) < 2 := by simpa using h
                                 omega
    repeat (first | refine i_len rfl ?_ | refine i_s rfl ?_ | refine i_lenm rfl rfl rfl ?_ | refine c_seq ?_ | refine c_cut0 ?_ | refine c_ops ?_ | refine i_nil ?_ | refine e_seq ?_ | refine e_block ?_ | refine c_block ?_ | refine c_skip ?_ | refine c_ret ?_ | refine c_exit ?_ | refine e_exit rfl ?_ | refine i_s0 rfl ?_ | refine c_leaf ?_ | refine i_gt rfl ?_ | refine i_gf rfl ?_ | refine i_gd rfl ?_ | refine c_t rfl ?_ | refine c_f rfl ?_ | refine i_conv rfl (by simp only [InR, List.length_map]; omega) ?_ | refine i_add rfl rfl (by simp only [InR, List.length_map]; omega) ?_ | refine i_sub rfl rfl (by simp only [InR, List.length_map]; omega) ?_ | refine i_ixm rfl rfl (by assumption) ?_ | refine i_iai rfl rfl (by omega) (by assumption) rfl ?_ | refine i_iam rfl rfl (by assumption) rfl ?_ | refine i_tk rfl rfl (by omega) ?_ | refine i_stb rfl ?_ | refine i_alloc rfl ?_ | refine i_box rfl rfl ?_ | refine i_nv rfl ?_)
    refine e_ret ⟨rfl, _, rfl, rfl, rfl, ?_, rfl⟩
    rw [restr_stOf]
    exact fin (by unfold compL; rw [ddK_all _ (Nat.le_refl _) fun j h1 h3 => by omega, List.take_length])
  have h2 : 2 ≤ l.length := by have : ¬ (l.length : Int) < 2 := by simpa using h
                               omega
  clear h
  repeat (first | refine i_len rfl ?_ | refine i_s rfl ?_ | refine i_lenm rfl rfl rfl ?_ | refine c_seq ?_ | refine c_cut0 ?_ | refine c_ops ?_ | refine i_nil ?_ | refine e_seq ?_ | refine e_block ?_ | refine c_block ?_ | refine c_skip ?_ | refine c_ret ?_ | refine c_exit ?_ | refine e_exit rfl ?_ | refine i_s0 rfl ?_ | refine c_leaf ?_ | refine i_gt rfl ?_ | refine i_gf rfl ?_ | refine i_gd rfl ?_ | refine c_t rfl ?_ | refine c_f rfl ?_ | refine i_conv rfl (by simp only [InR, List.length_map]; omega) ?_ | refine i_add rfl rfl (by simp only [InR, List.length_map]; omega) ?_ | refine i_sub rfl rfl (by simp only [InR, List.length_map]; omega) ?_ | refine i_ixm rfl rfl (by assumption) ?_ | refine i_iai rfl rfl (by omega) (by assumption) rfl ?_ | refine i_iam rfl rfl (by assumption) rfl ?_ | refine i_tk rfl rfl (by omega) ?_ | refine i_stb rfl ?_ | refine i_alloc rfl ?_ | refine i_box rfl rfl ?_ | refine i_nv rfl ?_)
  refine c_lp (ι := Nat) (fun k => [(0, .msl 3456449 gen 0 l.length), (3, .int .i64 k)]) (fun _ => [(3456449, .arr gen (l.map i64V))]) (fun k => 1 ≤ k ∧ k ≤ l.length ∧ ∀ j, 0 < j → j < k → l[j]? ≠ l[j - 1]?) (fun k => l.length - k) 1 ⟨Nat.le_refl _, by omega, fun j h1 h2 => by omega⟩ ⟨by repeat (first | exact trivial | refine ⟨rfl, ?_⟩), by repeat (first | exact trivial | refine ⟨rfl, ?_⟩), rfl⟩ fun k hi => ?_
  obtain ⟨k1, k2, k3⟩ := hi
  repeat (first | refine i_len rfl ?_ | refine i_s rfl ?_ | refine i_lenm rfl rfl rfl ?_ | refine c_seq ?_ | refine c_cut0 ?_ | refine c_ops ?_ | refine i_nil ?_ | refine e_seq ?_ | refine e_block ?_ | refine c_block ?_ | refine c_skip ?_ | refine c_ret ?_ | refine c_exit ?_ | refine e_exit rfl ?_ | refine i_s0 rfl ?_ | refine c_leaf ?_ | refine i_gt rfl ?_ | refine i_gf rfl ?_ | refine i_gd rfl ?_ | refine c_t rfl ?_ | refine c_f rfl ?_ | refine i_conv rfl (by simp only [InR, List.length_map]; omega) ?_ | refine i_add rfl rfl (by simp only [InR, List.length_map]; omega) ?_ | refine i_sub rfl rfl (by simp only [InR, List.length_map]; omega) ?_ | refine i_ixm rfl rfl (by assumption) ?_ | refine i_iai rfl rfl (by omega) (by assumption) rfl ?_ | refine i_iam rfl rfl (by assumption) rfl ?_ | refine i_tk rfl rfl (by omega) ?_ | refine i_stb rfl ?_ | refine i_alloc rfl ?_ | refine i_box rfl rfl ?_ | refine i_nv rfl ?_)
  refine c_cond rfl (fun h => ?_) (fun h => ?_)
  · have hlt : k < l.length := by have : (k : Int) < l.length := by simpa using h
                                  omega
    obtain ⟨x, hx⟩ := get_some hlt
    obtain ⟨y, hy⟩ := get_some (l := l) (k := k - 1) (by omega)
    clear h
    repeat (first | refine i_len rfl ?_ | refine i_s rfl ?_ | refine i_lenm rfl rfl rfl ?_ | refine c_seq ?_ | refine c_cut0 ?_ | refine c_ops ?_ | refine i_nil ?_ | refine e_seq ?_ | refine e_block ?_ | refine c_block ?_ | refine c_skip ?_ | refine c_ret ?_ | refine c_exit ?_ | refine e_exit rfl ?_ | refine i_s0 rfl ?_ | refine c_leaf ?_ | refine i_gt rfl ?_ | refine i_gf rfl ?_ | refine i_gd rfl ?_ | refine c_t rfl ?_ | refine c_f rfl ?_ | refine i_conv rfl (by simp only [InR, List.length_map]; omega) ?_ | refine i_add rfl rfl (by simp only [InR, List.length_map]; omega) ?_ | refine i_sub rfl rfl (by simp only [InR, List.length_map]; omega) ?_ | refine i_ixm rfl rfl (by assumption) ?_ | refine i_iai rfl rfl (by omega) (by assumption) rfl ?_ | refine i_iam rfl rfl (by assumption) rfl ?_ | refine i_tk rfl rfl (by omega) ?_ | refine i_stb rfl ?_ | refine i_alloc rfl ?_ | refine i_box rfl rfl ?_ | refine i_nv rfl ?_)
    refine i_ima rfl rfl rfl rfl (by omega) (by omega) rfl ?_
    refine i_ldp (row := i64V x) rfl rfl rfl (by simp [hx]) rfl ?_
    repeat (first | refine i_len rfl ?_ | refine i_s rfl ?_ | refine i_lenm rfl rfl rfl ?_ | refine c_seq ?_ | refine c_cut0 ?_ | refine c_ops ?_ | refine i_nil ?_ | refine e_seq ?_ | refine e_block ?_ | refine c_block ?_ | refine c_skip ?_ | refine c_ret ?_ | refine c_exit ?_ | refine e_exit rfl ?_ | refine i_s0 rfl ?_ | refine c_leaf ?_ | refine i_gt rfl ?_ | refine i_gf rfl ?_ | refine i_gd rfl ?_ | refine c_t rfl ?_ | refine c_f rfl ?_ | refine i_conv rfl (by simp only [InR, List.length_map]; omega) ?_ | refine i_add rfl rfl (by simp only [InR, List.length_map]; omega) ?_ | refine i_sub rfl rfl (by simp only [InR, List.length_map]; omega) ?_ | refine i_ixm rfl rfl (by assumption) ?_ | refine i_iai rfl rfl (by omega) (by assumption) rfl ?_ | refine i_iam rfl rfl (by assumption) rfl ?_ | refine i_tk rfl rfl (by omega) ?_ | refine i_stb rfl ?_ | refine i_alloc rfl ?_ | refine i_box rfl rfl ?_ | refine i_nv rfl ?_)
    refine i_ima rfl rfl rfl rfl (by omega) (by omega) rfl ?_
    refine i_ldp (row := i64V y) rfl rfl rfl (by rw [show 0 + ((k : Int) - 1).toNat = k - 1 from by omega]; simp [hy]) rfl ?_
    repeat (first | refine i_len rfl ?_ | refine i_s rfl ?_ | refine i_lenm rfl rfl rfl ?_ | refine c_seq ?_ | refine c_cut0 ?_ | refine c_ops ?_ | refine i_nil ?_ | refine e_seq ?_ | refine e_block ?_ | refine c_block ?_ | refine c_skip ?_ | refine c_ret ?_ | refine c_exit ?_ | refine e_exit rfl ?_ | refine i_s0 rfl ?_ | refine c_leaf ?_ | refine i_gt rfl ?_ | refine i_gf rfl ?_ | refine i_gd rfl ?_ | refine c_t rfl ?_ | refine c_f rfl ?_ | refine i_conv rfl (by simp only [InR, List.length_map]; omega) ?_ | refine i_add rfl rfl (by simp only [InR, List.length_map]; omega) ?_ | refine i_sub rfl rfl (by simp only [InR, List.length_map]; omega) ?_ | refine i_ixm rfl rfl (by assumption) ?_ | refine i_iai rfl rfl (by omega) (by assumption) rfl ?_ | refine i_iam rfl rfl (by assumption) rfl ?_ | refine i_tk rfl rfl (by omega) ?_ | refine i_stb rfl ?_ | refine i_alloc rfl ?_ | refine i_box rfl rfl ?_ | refine i_nv rfl ?_)
    refine c_cond rfl (fun h => ?_) (fun h => ?_)
    · have e : x = y := by simpa using h
      subst e
      clear h
      repeat (first | refine i_len rfl ?_ | refine i_s rfl ?_ | refine i_lenm rfl rfl rfl ?_ | refine c_seq ?_ | refine c_cut0 ?_ | refine c_ops ?_ | refine i_nil ?_ | refine e_seq ?_ | refine e_block ?_ | refine c_block ?_ | refine c_skip ?_ | refine c_ret ?_ | refine c_exit ?_ | refine e_exit rfl ?_ | refine i_s0 rfl ?_ | refine c_leaf ?_ | refine i_gt rfl ?_ | refine i_gf rfl ?_ | refine i_gd rfl ?_ | refine c_t rfl ?_ | refine c_f rfl ?_ | refine i_conv rfl (by simp only [InR, List.length_map]; omega) ?_ | refine i_add rfl rfl (by simp only [InR, List.length_map]; omega) ?_ | refine i_sub rfl rfl (by simp only [InR, List.length_map]; omega) ?_ | refine i_ixm rfl rfl (by assumption) ?_ | refine i_iai rfl rfl (by omega) (by assumption) rfl ?_ | refine i_iam rfl rfl (by assumption) rfl ?_ | refine i_tk rfl rfl (by omega) ?_ | refine i_stb rfl ?_ | refine i_alloc rfl ?_ | refine i_box rfl rfl ?_ | refine i_nv rfl ?_)
      refine i_sm rfl rfl rfl rfl (by omega) (by omega) rfl ?_
      repeat (first | refine i_len rfl ?_ | refine i_s rfl ?_ | refine i_lenm rfl rfl rfl ?_ | refine c_seq ?_ | refine c_cut0 ?_ | refine c_ops ?_ | refine i_nil ?_ | refine e_seq ?_ | refine e_block ?_ | refine c_block ?_ | refine c_skip ?_ | refine c_ret ?_ | refine c_exit ?_ | refine e_exit rfl ?_ | refine i_s0 rfl ?_ | refine c_leaf ?_ | refine i_gt rfl ?_ | refine i_gf rfl ?_ | refine i_gd rfl ?_ | refine c_t rfl ?_ | refine c_f rfl ?_ | refine i_conv rfl (by simp only [InR, List.length_map]; omega) ?_ | refine i_add rfl rfl (by simp only [InR, List.length_map]; omega) ?_ | refine i_sub rfl rfl (by simp only [InR, List.length_map]; omega) ?_ | refine i_ixm rfl rfl (by assumption) ?_ | refine i_iai rfl rfl (by omega) (by assumption) rfl ?_ | refine i_iam rfl rfl (by assumption) rfl ?_ | refine i_tk rfl rfl (by omega) ?_ | refine i_stb rfl ?_ | refine i_alloc rfl ?_ | refine i_box rfl rfl ?_ | refine i_nv rfl ?_)
      have e0 := ddK_all k (by omega) k3
      have e1 : ddK l (k + 1) = l.take k := by rw [ddK_skip hx (by omega) hy, e0]
      refine c_lp (ι := Nat) (fun j => [(0, .msl 3456449 gen 0 l.length), (3, .int .i64 (ddK l (k + j)).length), (4, .msl 3456449 gen (0 + k) (l.length - k)), (5, .int .i64 j)])
        (fun j => [(3456449, .arr gen ((ddK l (k + j) ++ l.drop (ddK l (k + j)).length).map i64V))]) (fun j => 1 ≤ j ∧ k + j ≤ l.length ∧ (ddK l (k + j)).length + 1 ≤ k + j) (fun j => l.length - j) 1 ⟨Nat.le_refl _, by omega, by rw [e1]; simp; omega⟩ ⟨⟨rfl, ?_, rfl, rfl, trivial⟩, ⟨?_, trivial⟩, rfl⟩ fun j hj => ?_
      · rw [e1, List.length_take, Nat.min_eq_left (by omega)]; rfl
      · rw [e1, List.length_take, Nat.min_eq_left (by omega), List.take_append_drop]; rfl
      obtain ⟨j1, j2, j3⟩ := hj
      have hdl := ddK_len l (k + j)
      have hAl : (ddK l (k + j) ++ l.drop (ddK l (k + j)).length).length = l.length := by simp; omega
      repeat (first | refine i_len rfl ?_ | refine i_s rfl ?_ | refine i_lenm rfl rfl rfl ?_ | refine c_seq ?_ | refine c_cut0 ?_ | refine c_ops ?_ | refine i_nil ?_ | refine e_seq ?_ | refine e_block ?_ | refine c_block ?_ | refine c_skip ?_ | refine c_ret ?_ | refine c_exit ?_ | refine e_exit rfl ?_ | refine i_s0 rfl ?_ | refine c_leaf ?_ | refine i_gt rfl ?_ | refine i_gf rfl ?_ | refine i_gd rfl ?_ | refine c_t rfl ?_ | refine c_f rfl ?_ | refine i_conv rfl (by simp only [InR, List.length_map]; omega) ?_ | refine i_add rfl rfl (by simp only [InR, List.length_map]; omega) ?_ | refine i_sub rfl rfl (by simp only [InR, List.length_map]; omega) ?_ | refine i_ixm rfl rfl (by assumption) ?_ | refine i_iai rfl rfl (by omega) (by assumption) rfl ?_ | refine i_iam rfl rfl (by assumption) rfl ?_ | refine i_tk rfl rfl (by omega) ?_ | refine i_stb rfl ?_ | refine i_alloc rfl ?_ | refine i_box rfl rfl ?_ | refine i_nv rfl ?_)
      refine c_cond rfl (fun h => ?_) (fun h => ?_)
      · have hlt2 : j < l.length - k := by have : (j : Int) < ((l.length - k : Nat) : Int) := by simpa using h
                                           omega
        obtain ⟨a, ha⟩ := get_some (l := l) (k := k + j) (by omega)
        obtain ⟨b, hb⟩ := get_some (l := l) (k := k + j - 1) (by omega)
        have ha' := ha
        rw [← dd_get (m := k + j) (by omega)] at ha'
        have hb' := hb
        rw [← dd_get (m := k + j) (by omega)] at hb'
        clear h
        repeat (first | refine i_len rfl ?_ | refine i_s rfl ?_ | refine i_lenm rfl rfl rfl ?_ | refine c_seq ?_ | refine c_cut0 ?_ | refine c_ops ?_ | refine i_nil ?_ | refine e_seq ?_ | refine e_block ?_ | refine c_block ?_ | refine c_skip ?_ | refine c_ret ?_ | refine c_exit ?_ | refine e_exit rfl ?_ | refine i_s0 rfl ?_ | refine c_leaf ?_ | refine i_gt rfl ?_ | refine i_gf rfl ?_ | refine i_gd rfl ?_ | refine c_t rfl ?_ | refine c_f rfl ?_ | refine i_conv rfl (by simp only [InR, List.length_map]; omega) ?_ | refine i_add rfl rfl (by simp only [InR, List.length_map]; omega) ?_ | refine i_sub rfl rfl (by simp only [InR, List.length_map]; omega) ?_ | refine i_ixm rfl rfl (by assumption) ?_ | refine i_iai rfl rfl (by omega) (by assumption) rfl ?_ | refine i_iam rfl rfl (by assumption) rfl ?_ | refine i_tk rfl rfl (by omega) ?_ | refine i_stb rfl ?_ | refine i_alloc rfl ?_ | refine i_box rfl rfl ?_ | refine i_nv rfl ?_)
        refine i_ima rfl rfl rfl rfl (by omega) (by omega) rfl ?_
        refine i_ldp (row := i64V a) rfl rfl rfl (by rw [show 0 + k + (j : Int).toNat = k + j from by omega, List.getElem?_map, ha']; rfl) rfl ?_
        repeat (first | refine i_len rfl ?_ | refine i_s rfl ?_ | refine i_lenm rfl rfl rfl ?_ | refine c_seq ?_ | refine c_cut0 ?_ | refine c_ops ?_ | refine i_nil ?_ | refine e_seq ?_ | refine e_block ?_ | refine c_block ?_ | refine c_skip ?_ | refine c_ret ?_ | refine c_exit ?_ | refine e_exit rfl ?_ | refine i_s0 rfl ?_ | refine c_leaf ?_ | refine i_gt rfl ?_ | refine i_gf rfl ?_ | refine i_gd rfl ?_ | refine c_t rfl ?_ | refine c_f rfl ?_ | refine i_conv rfl (by simp only [InR, List.length_map]; omega) ?_ | refine i_add rfl rfl (by simp only [InR, List.length_map]; omega) ?_ | refine i_sub rfl rfl (by simp only [InR, List.length_map]; omega) ?_ | refine i_ixm rfl rfl (by assumption) ?_ | refine i_iai rfl rfl (by omega) (by assumption) rfl ?_ | refine i_iam rfl rfl (by assumption) rfl ?_ | refine i_tk rfl rfl (by omega) ?_ | refine i_stb rfl ?_ | refine i_alloc rfl ?_ | refine i_box rfl rfl ?_ | refine i_nv rfl ?_)
        refine i_ima rfl rfl rfl rfl (by omega) (by omega) rfl ?_
        refine i_ldp (row := i64V b) rfl rfl rfl (by rw [show 0 + k + ((j : Int) - 1).toNat = k + j - 1 from by omega, List.getElem?_map, hb']; rfl) rfl ?_
        repeat (first | refine i_len rfl ?_ | refine i_s rfl ?_ | refine i_lenm rfl rfl rfl ?_ | refine c_seq ?_ | refine c_cut0 ?_ | refine c_ops ?_ | refine i_nil ?_ | refine e_seq ?_ | refine e_block ?_ | refine c_block ?_ | refine c_skip ?_ | refine c_ret ?_ | refine c_exit ?_ | refine e_exit rfl ?_ | refine i_s0 rfl ?_ | refine c_leaf ?_ | refine i_gt rfl ?_ | refine i_gf rfl ?_ | refine i_gd rfl ?_ | refine c_t rfl ?_ | refine c_f rfl ?_ | refine i_conv rfl (by simp only [InR, List.length_map]; omega) ?_ | refine i_add rfl rfl (by simp only [InR, List.length_map]; omega) ?_ | refine i_sub rfl rfl (by simp only [InR, List.length_map]; omega) ?_ | refine i_ixm rfl rfl (by assumption) ?_ | refine i_iai rfl rfl (by omega) (by assumption) rfl ?_ | refine i_iam rfl rfl (by assumption) rfl ?_ | refine i_tk rfl rfl (by omega) ?_ | refine i_stb rfl ?_ | refine i_alloc rfl ?_ | refine i_box rfl rfl ?_ | refine i_nv rfl ?_)
        refine c_cond rfl (fun h => ?_) (fun h => ?_)
        · have hne : a ≠ b := by simpa using h
          have ek : ddK l (k + (j + 1)) = ddK l (k + j) ++ [a] := ddK_keep (k := k + j) ha (.inr (by rw [hb]; simpa using fun e => hne e.symm))
          clear h
          repeat (first | refine i_len rfl ?_ | refine i_s rfl ?_ | refine i_lenm rfl rfl rfl ?_ | refine c_seq ?_ | refine c_cut0 ?_ | refine c_ops ?_ | refine i_nil ?_ | refine e_seq ?_ | refine e_block ?_ | refine c_block ?_ | refine c_skip ?_ | refine c_ret ?_ | refine c_exit ?_ | refine e_exit rfl ?_ | refine i_s0 rfl ?_ | refine c_leaf ?_ | refine i_gt rfl ?_ | refine i_gf rfl ?_ | refine i_gd rfl ?_ | refine c_t rfl ?_ | refine c_f rfl ?_ | refine i_conv rfl (by simp only [InR, List.length_map]; omega) ?_ | refine i_add rfl rfl (by simp only [InR, List.length_map]; omega) ?_ | refine i_sub rfl rfl (by simp only [InR, List.length_map]; omega) ?_ | refine i_ixm rfl rfl (by assumption) ?_ | refine i_iai rfl rfl (by omega) (by assumption) rfl ?_ | refine i_iam rfl rfl (by assumption) rfl ?_ | refine i_tk rfl rfl (by omega) ?_ | refine i_stb rfl ?_ | refine i_alloc rfl ?_ | refine i_box rfl rfl ?_ | refine i_nv rfl ?_)
          refine i_ima rfl rfl rfl rfl (by omega) (by omega) rfl ?_
          refine i_ldp (row := i64V a) rfl rfl rfl (by rw [show 0 + k + (j : Int).toNat = k + j from by omega, List.getElem?_map, ha']; rfl) rfl ?_
          repeat (first | refine i_len rfl ?_ | refine i_s rfl ?_ | refine i_lenm rfl rfl rfl ?_ | refine c_seq ?_ | refine c_cut0 ?_ | refine c_ops ?_ | refine i_nil ?_ | refine e_seq ?_ | refine e_block ?_ | refine c_block ?_ | refine c_skip ?_ | refine c_ret ?_ | refine c_exit ?_ | refine e_exit rfl ?_ | refine i_s0 rfl ?_ | refine c_leaf ?_ | refine i_gt rfl ?_ | refine i_gf rfl ?_ | refine i_gd rfl ?_ | refine c_t rfl ?_ | refine c_f rfl ?_ | refine i_conv rfl (by simp only [InR, List.length_map]; omega) ?_ | refine i_add rfl rfl (by simp only [InR, List.length_map]; omega) ?_ | refine i_sub rfl rfl (by simp only [InR, List.length_map]; omega) ?_ | refine i_ixm rfl rfl (by assumption) ?_ | refine i_iai rfl rfl (by omega) (by assumption) rfl ?_ | refine i_iam rfl rfl (by assumption) rfl ?_ | refine i_tk rfl rfl (by omega) ?_ | refine i_stb rfl ?_ | refine i_alloc rfl ?_ | refine i_box rfl rfl ?_ | refine i_nv rfl ?_)
          refine i_ima rfl rfl rfl rfl (by omega) (by omega) rfl ?_
          refine i_sti rfl rfl rfl rfl rfl (by rw [hAl]; omega) ?_
          repeat (first | refine i_len rfl ?_ | refine i_s rfl ?_ | refine i_lenm rfl rfl rfl ?_ | refine c_seq ?_ | refine c_cut0 ?_ | refine c_ops ?_ | refine i_nil ?_ | refine e_seq ?_ | refine e_block ?_ | refine c_block ?_ | refine c_skip ?_ | refine c_ret ?_ | refine c_exit ?_ | refine e_exit rfl ?_ | refine i_s0 rfl ?_ | refine c_leaf ?_ | refine i_gt rfl ?_ | refine i_gf rfl ?_ | refine i_gd rfl ?_ | refine c_t rfl ?_ | refine c_f rfl ?_ | refine i_conv rfl (by simp only [InR, List.length_map]; omega) ?_ | refine i_add rfl rfl (by simp only [InR, List.length_map]; omega) ?_ | refine i_sub rfl rfl (by simp only [InR, List.length_map]; omega) ?_ | refine i_ixm rfl rfl (by assumption) ?_ | refine i_iai rfl rfl (by omega) (by assumption) rfl ?_ | refine i_iam rfl rfl (by assumption) rfl ?_ | refine i_tk rfl rfl (by omega) ?_ | refine i_stb rfl ?_ | refine i_alloc rfl ?_ | refine i_box rfl rfl ?_ | refine i_nv rfl ?_)
          refine e_lp (j + 1) ⟨by omega, by omega, by rw [ek]; simp; omega⟩ (by omega) ⟨⟨rfl, ?_, rfl, rfl, trivial⟩, ⟨?_, trivial⟩, rfl⟩
          · rw [ek]; simp; rfl
          · have := dd_set (l := l) (m := k + j) (x := a) (by omega)
            rw [ek, ← this, show (ddK l (k + j)).length = 0 + ((ddK l (k + j)).length : Int).toNat from by omega]
            simp
            rfl
        · have he : a = b := by simpa using h
          subst he
          have ek : ddK l (k + (j + 1)) = ddK l (k + j) := ddK_skip (k := k + j) ha (by omega) hb
          clear h
          repeat (first | refine i_len rfl ?_ | refine i_s rfl ?_ | refine i_lenm rfl rfl rfl ?_ | refine c_seq ?_ | refine c_cut0 ?_ | refine c_ops ?_ | refine i_nil ?_ | refine e_seq ?_ | refine e_block ?_ | refine c_block ?_ | refine c_skip ?_ | refine c_ret ?_ | refine c_exit ?_ | refine e_exit rfl ?_ | refine i_s0 rfl ?_ | refine c_leaf ?_ | refine i_gt rfl ?_ | refine i_gf rfl ?_ | refine i_gd rfl ?_ | refine c_t rfl ?_ | refine c_f rfl ?_ | refine i_conv rfl (by simp only [InR, List.length_map]; omega) ?_ | refine i_add rfl rfl (by simp only [InR, List.length_map]; omega) ?_ | refine i_sub rfl rfl (by simp only [InR, List.length_map]; omega) ?_ | refine i_ixm rfl rfl (by assumption) ?_ | refine i_iai rfl rfl (by omega) (by assumption) rfl ?_ | refine i_iam rfl rfl (by assumption) rfl ?_ | refine i_tk rfl rfl (by omega) ?_ | refine i_stb rfl ?_ | refine i_alloc rfl ?_ | refine i_box rfl rfl ?_ | refine i_nv rfl ?_)
          refine e_lp (j + 1) ⟨by omega, by omega, by rw [ek]; omega⟩ (by omega) ⟨⟨rfl, ?_, rfl, rfl, trivial⟩, ⟨?_, trivial⟩, rfl⟩
          · rw [ek]; rfl
          · rw [ek]; rfl
      · have hje : k + j = l.length := by have : ¬ (j : Int) < ((l.length - k : Nat) : Int) := by simpa using h
                                          omega
        have ec : compL l = ddK l (k + j) := by unfold compL; rw [hje]
        clear fin
        clear h
        repeat (first | refine i_len rfl ?_ | refine i_s rfl ?_ | refine i_lenm rfl rfl rfl ?_ | refine c_seq ?_ | refine c_cut0 ?_ | refine c_ops ?_ | refine i_nil ?_ | refine e_seq ?_ | refine e_block ?_ | refine c_block ?_ | refine c_skip ?_ | refine c_ret ?_ | refine c_exit ?_ | refine e_exit rfl ?_ | refine i_s0 rfl ?_ | refine c_leaf ?_ | refine i_gt rfl ?_ | refine i_gf rfl ?_ | refine i_gd rfl ?_ | refine c_t rfl ?_ | refine c_f rfl ?_ | refine i_conv rfl (by simp only [InR, List.length_map]; omega) ?_ | refine i_add rfl rfl (by simp only [InR, List.length_map]; omega) ?_ | refine i_sub rfl rfl (by simp only [InR, List.length_map]; omega) ?_ | refine i_ixm rfl rfl (by assumption) ?_ | refine i_iai rfl rfl (by omega) (by assumption) rfl ?_ | refine i_iam rfl rfl (by assumption) rfl ?_ | refine i_tk rfl rfl (by omega) ?_ | refine i_stb rfl ?_ | refine i_alloc rfl ?_ | refine i_box rfl rfl ?_ | refine i_nv rfl ?_)
        refine i_sm rfl rfl rfl rfl (by omega) (by omega) rfl ?_
        refine i_clear rfl rfl rfl rfl ?_
        repeat (first | refine i_len rfl ?_ | refine i_s rfl ?_ | refine i_lenm rfl rfl rfl ?_ | refine c_seq ?_ | refine c_cut0 ?_ | refine c_ops ?_ | refine i_nil ?_ | refine e_seq ?_ | refine e_block ?_ | refine c_block ?_ | refine c_skip ?_ | refine c_ret ?_ | refine c_exit ?_ | refine e_exit rfl ?_ | refine i_s0 rfl ?_ | refine c_leaf ?_ | refine i_gt rfl ?_ | refine i_gf rfl ?_ | refine i_gd rfl ?_ | refine c_t rfl ?_ | refine c_f rfl ?_ | refine i_conv rfl (by simp only [InR, List.length_map]; omega) ?_ | refine i_add rfl rfl (by simp only [InR, List.length_map]; omega) ?_ | refine i_sub rfl rfl (by simp only [InR, List.length_map]; omega) ?_ | refine i_ixm rfl rfl (by assumption) ?_ | refine i_iai rfl rfl (by omega) (by assumption) rfl ?_ | refine i_iam rfl rfl (by assumption) rfl ?_ | refine i_tk rfl rfl (by omega) ?_ | refine i_stb rfl ?_ | refine i_alloc rfl ?_ | refine i_box rfl rfl ?_ | refine i_nv rfl ?_)
        refine i_smh rfl rfl rfl rfl rfl (by omega) (by omega) (by omega) rfl ?_
        repeat (first | refine i_len rfl ?_ | refine i_s rfl ?_ | refine i_lenm rfl rfl rfl ?_ | refine c_seq ?_ | refine c_cut0 ?_ | refine c_ops ?_ | refine i_nil ?_ | refine e_seq ?_ | refine e_block ?_ | refine c_block ?_ | refine c_skip ?_ | refine c_ret ?_ | refine c_exit ?_ | refine e_exit rfl ?_ | refine i_s0 rfl ?_ | refine c_leaf ?_ | refine i_gt rfl ?_ | refine i_gf rfl ?_ | refine i_gd rfl ?_ | refine c_t rfl ?_ | refine c_f rfl ?_ | refine i_conv rfl (by simp only [InR, List.length_map]; omega) ?_ | refine i_add rfl rfl (by simp only [InR, List.length_map]; omega) ?_ | refine i_sub rfl rfl (by simp only [InR, List.length_map]; omega) ?_ | refine i_ixm rfl rfl (by assumption) ?_ | refine i_iai rfl rfl (by omega) (by assumption) rfl ?_ | refine i_iam rfl rfl (by assumption) rfl ?_ | refine i_tk rfl rfl (by omega) ?_ | refine i_stb rfl ?_ | refine i_alloc rfl ?_ | refine i_box rfl rfl ?_ | refine i_nv rfl ?_)
        rw [ec]
        refine e_ret ⟨rfl, _, rfl, rfl, rfl, ⟨_, ?_, restr_stOf _ _, ?_⟩, rfl⟩
        · show V.msl _ _ _ _ = V.msl _ _ _ _
          simp
        · have e1 : (0 + ((ddK l (k + j)).length : Int).toNat) = (ddK l (k + j)).length := by omega
          rw [e1, List.append_assoc, List.take_append_of_le_length (by simp), List.take_take, Nat.min_self, ← List.map_take, List.take_append_of_le_length (Nat.le_refl _), List.take_length]
    · have hne : x ≠ y := by simpa using h
      clear h
      repeat (first | refine i_len rfl ?_ | refine i_s rfl ?_ | refine i_lenm rfl rfl rfl ?_ | refine c_seq ?_ | refine c_cut0 ?_ | refine c_ops ?_ | refine i_nil ?_ | refine e_seq ?_ | refine e_block ?_ | refine c_block ?_ | refine c_skip ?_ | refine c_ret ?_ | refine c_exit ?_ | refine e_exit rfl ?_ | refine i_s0 rfl ?_ | refine c_leaf ?_ | refine i_gt rfl ?_ | refine i_gf rfl ?_ | refine i_gd rfl ?_ | refine c_t rfl ?_ | refine c_f rfl ?_ | refine i_conv rfl (by simp only [InR, List.length_map]; omega) ?_ | refine i_add rfl rfl (by simp only [InR, List.length_map]; omega) ?_ | refine i_sub rfl rfl (by simp only [InR, List.length_map]; omega) ?_ | refine i_ixm rfl rfl (by assumption) ?_ | refine i_iai rfl rfl (by omega) (by assumption) rfl ?_ | refine i_iam rfl rfl (by assumption) rfl ?_ | refine i_tk rfl rfl (by omega) ?_ | refine i_stb rfl ?_ | refine i_alloc rfl ?_ | refine i_box rfl rfl ?_ | refine i_nv rfl ?_)
      refine e_lp (k + 1) ⟨by omega, by omega, fun j h1 h3 => ?_⟩ (by omega) ⟨by repeat (first | exact trivial | refine ⟨rfl, ?_⟩), by repeat (first | exact trivial | refine ⟨rfl, ?_⟩), rfl⟩
      by_cases e : j = k
      · subst e; rw [hx, hy]; simpa using hne
      · exact k3 j h1 (by omega)
  · have hke : k = l.length := by have : ¬ (k : Int) < l.length := by simpa using h
                                  omega
    subst hke
    repeat (first | refine i_len rfl ?_ | refine i_s rfl ?_ | refine i_lenm rfl rfl rfl ?_ | refine c_seq ?_ | refine c_cut0 ?_ | refine c_ops ?_ | refine i_nil ?_ | refine e_seq ?_ | refine e_block ?_ | refine c_block ?_ | refine c_skip ?_ | refine c_ret ?_ | refine c_exit ?_ | refine e_exit rfl ?_ | refine i_s0 rfl ?_ | refine c_leaf ?_ | refine i_gt rfl ?_ | refine i_gf rfl ?_ | refine i_gd rfl ?_ | refine c_t rfl ?_ | refine c_f rfl ?_ | refine i_conv rfl (by simp only [InR, List.length_map]; omega) ?_ | refine i_add rfl rfl (by simp only [InR, List.length_map]; omega) ?_ | refine i_sub rfl rfl (by simp only [InR, List.length_map]; omega) ?_ | refine i_ixm rfl rfl (by assumption) ?_ | refine i_iai rfl rfl (by omega) (by assumption) rfl ?_ | refine i_iam rfl rfl (by assumption) rfl ?_ | refine i_tk rfl rfl (by omega) ?_ | refine i_stb rfl ?_ | refine i_alloc rfl ?_ | refine i_box rfl rfl ?_ | refine i_nv rfl ?_)
    refine e_ret ⟨rfl, _, rfl, rfl, rfl, ?_, rfl⟩
    rw [restr_stOf]
    exact fin (by unfold compL; rw [ddK_all _ (Nat.le_refl _) k3, List.take_length])
theorem msl_all {l : List Int} {n : Nat} (h : l.length = n) : V.sl .p (((l.map i64V).drop 0).take n) = V.sl .p (l.map i64V) := by
  rw [List.drop_zero, List.take_of_length_le (by simp; omega)]
theorem er_msl {σ : Store} {nm gen i len n : Nat} {rows : List V} (hs : σ nm = .arr gen rows) : er σ (n + 1) (.msl nm gen i len) = .sl .p ((rows.drop i).take len) := by
  simp [er, hs]
theorem take_filter_succ {l : List Int} {p : Int → Bool} {k : Nat} {x : Int} (h : l[k]? = some x) : (l.take (k + 1)).filter p = (l.take k).filter p ++ (if p x = true then [x] else []) := by
  rw [take_succ_get h, List.filter_append]
  congr 1
  cases hx : p x <;> simp [List.filter, hx]
def c_strips_Update : Cmd :=
  (.seq
   (.ops [
   .op (some 6) none (.mov (.c (.sl .nil [])))])
   (.cut
   (.seq
   (.ops [
   .op (some 7) none (.newArr 3456449)])
   (.cut
   (.seq
   (.seq
   (.ops [
   .op (some 12) none (.mov (.t 0)),
   .op (some 13) none (.len false (.t 12)),
   .op (some 14) none (.mov (.c (.int .i64 (0))))])
   (.cut
   (.block 0
   (.loop
   (.seq
   (.ops [
   .op (some 15) none (.bin .lss false [] (.t 14) (.t 13))])
   (.cut
   (.seq
   (.cond (.t 15)
   .skip
   (.exit 0))
   (.cut
   (.seq
   (.block 1
   (.seq
   (.ops [
   .op (some 16) none (.iaddr 1 (.t 12) (.t 14)),
   .op (some 17) none (.load false 1 (.t 16)),
   .op (some 9) none (.mov (.t 17))])
   (.cut
   (.seq
   (.ops [
   .op (some 19) none (.mov (.t 2)),
   .op (some 20) none (.mov (.t 9)),
   .op (some 21) none (.call .f (.c (.fn 57 [])) [.t 19, .t 20]),
   .op (some 18) none (.mov (.t 21)),
   .op (some 22) none (.extract (.t 18) 0),
   .op (some 23) none (.extract (.t 18) 1),
   .op (some 10) none (.mov (.t 22)),
   .op (some 11) none (.mov (.t 23))])
   (.cut
   (.seq
   (.ops [
   .op (some 24) none (.mov (.t 11)),
   .op (some 25) none (.not (.t 24))])
   (.cut
   (.cond (.t 25)
   (.ops [
   .op (some 26) none (.mov (.t 7)),
   .op (some 27) none (.mov (.t 9)),
   .op (some 28) none (.bsl 1 [.t 27]),
   .op (some 29) none (.append 1 8 (.t 26) (.t 28)),
   .op (some 7) none (.mov (.t 29))])
   .skip))))))))
   (.cut
   (.ops [
   .op (some 30) none (.bin .add false [] (.t 14) (.c (.int .i64 (1)))),
   .op (some 14) none (.mov (.t 30))])))))))))))
   (.cut
   (.seq
   (.ops [
   .op (some 31) none (.mov (.t 7)),
   .op (some 32) none (.mov (.t 1)),
   .op (some 33) none (.append 1 8 (.t 31) (.t 32)),
   .op (some 7) none (.mov (.t 33))])
   (.cut
   (.seq
   (.ops [
   .op (some 34) none (.mov (.t 7)),
   .op (some 35) none (.call (.s [3456449]) (.c (.fn 58 [])) [.t 34])])
   (.cut
   (.seq
   (.ops [
   .op (some 36) none (.mov (.t 7)),
   .op (some 37) none (.call (.s [3456449]) (.c (.fn 59 [])) [.t 36]),
   .op (some 6) none (.mov (.t 37))])
   .ret)))))))))))
def r_strips_Update : List RVar := [.tmp 6]
def n_strips_Update : Nat := 38
theorem k_strips_Update : chkFn Go.Proofs.Try.prog 54 n_strips_Update r_strips_Update c_strips_Update = true := by kernel_rfl
theorem f_strips_Update (s add del : List Int) (hs : s.length ≤ 17592186044) (ha : add.length ≤ 17592186044) (hd : del.length ≤ 17592186044) (hdel : SS del) :
    Fc Go.Proofs.Try.prog 54 [.sl .p (s.map i64V), .sl .p (add.map i64V), .sl .p (del.map i64V)] (.sl .p ((updL s add del).map i64V)) := by
  have hu : updL s add del = compL (srtL (s.filter (fun x => decide (x ∉ del)) ++ add)) := rfl
  rw [hu]
  generalize hp : (fun x => decide (x ∉ del)) = p
  refine Fn.step mixed k_strips_Update ?_
  repeat (first | refine i_len rfl ?_ | refine i_s rfl ?_ | refine i_lenm rfl rfl rfl ?_ | refine c_seq ?_ | refine c_cut0 ?_ | refine c_ops ?_ | refine i_nil ?_ | refine e_seq ?_ | refine e_block ?_ | refine c_block ?_ | refine c_skip ?_ | refine c_ret ?_ | refine c_exit ?_ | refine e_exit rfl ?_ | refine i_s0 rfl ?_ | refine c_leaf ?_ | refine i_gt rfl ?_ | refine i_gf rfl ?_ | refine i_gd rfl ?_ | refine c_t rfl ?_ | refine c_f rfl ?_ | refine i_conv rfl (by simp only [InR, List.length_map]; omega) ?_ | refine i_add rfl rfl (by simp only [InR, List.length_map]; omega) ?_ | refine i_sub rfl rfl (by simp only [InR, List.length_map]; omega) ?_ | refine i_ixm rfl rfl (by assumption) ?_ | refine i_iai rfl rfl (by omega) (by assumption) rfl ?_ | refine i_iam rfl rfl (by assumption) rfl ?_ | refine i_tk rfl rfl (by omega) ?_ | refine i_stb rfl ?_ | refine i_alloc rfl ?_ | refine i_box rfl rfl ?_ | refine i_nv rfl ?_)
  refine i_na rfl ?_
  repeat (first | refine i_len rfl ?_ | refine i_s rfl ?_ | refine i_lenm rfl rfl rfl ?_ | refine c_seq ?_ | refine c_cut0 ?_ | refine c_ops ?_ | refine i_nil ?_ | refine e_seq ?_ | refine e_block ?_ | refine c_block ?_ | refine c_skip ?_ | refine c_ret ?_ | refine c_exit ?_ | refine e_exit rfl ?_ | refine i_s0 rfl ?_ | refine c_leaf ?_ | refine i_gt rfl ?_ | refine i_gf rfl ?_ | refine i_gd rfl ?_ | refine c_t rfl ?_ | refine c_f rfl ?_ | refine i_conv rfl (by simp only [InR, List.length_map]; omega) ?_ | refine i_add rfl rfl (by simp only [InR, List.length_map]; omega) ?_ | refine i_sub rfl rfl (by simp only [InR, List.length_map]; omega) ?_ | refine i_ixm rfl rfl (by assumption) ?_ | refine i_iai rfl rfl (by omega) (by assumption) rfl ?_ | refine i_iam rfl rfl (by assumption) rfl ?_ | refine i_tk rfl rfl (by omega) ?_ | refine i_stb rfl ?_ | refine i_alloc rfl ?_ | refine i_box rfl rfl ?_ | refine i_nv rfl ?_)
  refine c_for s.length (fun k => [(1, .sl .p (add.map i64V)), (2, .sl .p (del.map i64V)), (7, .msl 3456449 ((s.take k).filter p).length 0 ((s.take k).filter p).length), (12, .sl .p (s.map i64V)), (13, .int .i64 s.length), (14, .int .i64 k)])
    (fun k => [(3456449, .arr ((s.take k).filter p).length (((s.take k).filter p).map i64V))]) (fun _ => True) trivial ⟨by repeat (first | exact trivial | refine ⟨rfl, ?_⟩), by repeat (first | exact trivial | refine ⟨rfl, ?_⟩), rfl⟩ fun k hk _ => ?_
  have hfl : ((s.take k).filter p).length ≤ k := Nat.le_trans (List.length_filter_le _ _) (by simp; omega)
  repeat (first | refine i_len rfl ?_ | refine i_s rfl ?_ | refine i_lenm rfl rfl rfl ?_ | refine c_seq ?_ | refine c_cut0 ?_ | refine c_ops ?_ | refine i_nil ?_ | refine e_seq ?_ | refine e_block ?_ | refine c_block ?_ | refine c_skip ?_ | refine c_ret ?_ | refine c_exit ?_ | refine e_exit rfl ?_ | refine i_s0 rfl ?_ | refine c_leaf ?_ | refine i_gt rfl ?_ | refine i_gf rfl ?_ | refine i_gd rfl ?_ | refine c_t rfl ?_ | refine c_f rfl ?_ | refine i_conv rfl (by simp only [InR, List.length_map]; omega) ?_ | refine i_add rfl rfl (by simp only [InR, List.length_map]; omega) ?_ | refine i_sub rfl rfl (by simp only [InR, List.length_map]; omega) ?_ | refine i_ixm rfl rfl (by assumption) ?_ | refine i_iai rfl rfl (by omega) (by assumption) rfl ?_ | refine i_iam rfl rfl (by assumption) rfl ?_ | refine i_tk rfl rfl (by omega) ?_ | refine i_stb rfl ?_ | refine i_alloc rfl ?_ | refine i_box rfl rfl ?_ | refine i_nv rfl ?_)
  refine c_cond rfl (fun h => ?_) (fun h => ?_)
  · have hlt : k < s.length := by simpa using h
    obtain ⟨x, hx⟩ := get_some hlt
    have hB := f_BinarySearch del x (by omega) hdel
    have ef := take_filter_succ (p := p) hx
    have hpx : p x = !decide (x ∈ del) := by rw [← hp]; simp
    clear h
    repeat (first | refine i_len rfl ?_ | refine i_s rfl ?_ | refine i_lenm rfl rfl rfl ?_ | refine c_seq ?_ | refine c_cut0 ?_ | refine c_ops ?_ | refine i_nil ?_ | refine e_seq ?_ | refine e_block ?_ | refine c_block ?_ | refine c_skip ?_ | refine c_ret ?_ | refine c_exit ?_ | refine e_exit rfl ?_ | refine i_s0 rfl ?_ | refine c_leaf ?_ | refine i_gt rfl ?_ | refine i_gf rfl ?_ | refine i_gd rfl ?_ | refine c_t rfl ?_ | refine c_f rfl ?_ | refine i_conv rfl (by simp only [InR, List.length_map]; omega) ?_ | refine i_add rfl rfl (by simp only [InR, List.length_map]; omega) ?_ | refine i_sub rfl rfl (by simp only [InR, List.length_map]; omega) ?_ | refine i_ixm rfl rfl (by assumption) ?_ | refine i_iai rfl rfl (by omega) (by assumption) rfl ?_ | refine i_iam rfl rfl (by assumption) rfl ?_ | refine i_tk rfl rfl (by omega) ?_ | refine i_stb rfl ?_ | refine i_alloc rfl ?_ | refine i_box rfl rfl ?_ | refine i_nv rfl ?_ | refine i_f rfl rfl (hB) rfl ?_)
    refine c_cond rfl (fun h => ?_) (fun h => ?_)
    · rw [hpx, if_pos h] at ef
      repeat (first | refine i_len rfl ?_ | refine i_s rfl ?_ | refine i_lenm rfl rfl rfl ?_ | refine c_seq ?_ | refine c_cut0 ?_ | refine c_ops ?_ | refine i_nil ?_ | refine e_seq ?_ | refine e_block ?_ | refine c_block ?_ | refine c_skip ?_ | refine c_ret ?_ | refine c_exit ?_ | refine e_exit rfl ?_ | refine i_s0 rfl ?_ | refine c_leaf ?_ | refine i_gt rfl ?_ | refine i_gf rfl ?_ | refine i_gd rfl ?_ | refine c_t rfl ?_ | refine c_f rfl ?_ | refine i_conv rfl (by simp only [InR, List.length_map]; omega) ?_ | refine i_add rfl rfl (by simp only [InR, List.length_map]; omega) ?_ | refine i_sub rfl rfl (by simp only [InR, List.length_map]; omega) ?_ | refine i_ixm rfl rfl (by assumption) ?_ | refine i_iai rfl rfl (by omega) (by assumption) rfl ?_ | refine i_iam rfl rfl (by assumption) rfl ?_ | refine i_tk rfl rfl (by omega) ?_ | refine i_stb rfl ?_ | refine i_alloc rfl ?_ | refine i_box rfl rfl ?_ | refine i_nv rfl ?_)
      refine i_appmM [x] rfl rfl rfl rfl rfl (fun c hc => ⟨rfl, rfl⟩) (by simp; omega) (by simp; omega) ?_
      repeat (first | refine i_len rfl ?_ | refine i_s rfl ?_ | refine i_lenm rfl rfl rfl ?_ | refine c_seq ?_ | refine c_cut0 ?_ | refine c_ops ?_ | refine i_nil ?_ | refine e_seq ?_ | refine e_block ?_ | refine c_block ?_ | refine c_skip ?_ | refine c_ret ?_ | refine c_exit ?_ | refine e_exit rfl ?_ | refine i_s0 rfl ?_ | refine c_leaf ?_ | refine i_gt rfl ?_ | refine i_gf rfl ?_ | refine i_gd rfl ?_ | refine c_t rfl ?_ | refine c_f rfl ?_ | refine i_conv rfl (by simp only [InR, List.length_map]; omega) ?_ | refine i_add rfl rfl (by simp only [InR, List.length_map]; omega) ?_ | refine i_sub rfl rfl (by simp only [InR, List.length_map]; omega) ?_ | refine i_ixm rfl rfl (by assumption) ?_ | refine i_iai rfl rfl (by omega) (by assumption) rfl ?_ | refine i_iam rfl rfl (by assumption) rfl ?_ | refine i_tk rfl rfl (by omega) ?_ | refine i_stb rfl ?_ | refine i_alloc rfl ?_ | refine i_box rfl rfl ?_ | refine i_nv rfl ?_)
      refine e_for hlt trivial ⟨⟨rfl, rfl, ?_, rfl, rfl, rfl, trivial⟩, ⟨?_, trivial⟩, rfl⟩
      · rw [ef, List.length_append]; rfl
      · rw [ef, List.length_append]; rfl
    · rw [hpx, if_neg (by simpa using h), List.append_nil] at ef
      repeat (first | refine i_len rfl ?_ | refine i_s rfl ?_ | refine i_lenm rfl rfl rfl ?_ | refine c_seq ?_ | refine c_cut0 ?_ | refine c_ops ?_ | refine i_nil ?_ | refine e_seq ?_ | refine e_block ?_ | refine c_block ?_ | refine c_skip ?_ | refine c_ret ?_ | refine c_exit ?_ | refine e_exit rfl ?_ | refine i_s0 rfl ?_ | refine c_leaf ?_ | refine i_gt rfl ?_ | refine i_gf rfl ?_ | refine i_gd rfl ?_ | refine c_t rfl ?_ | refine c_f rfl ?_ | refine i_conv rfl (by simp only [InR, List.length_map]; omega) ?_ | refine i_add rfl rfl (by simp only [InR, List.length_map]; omega) ?_ | refine i_sub rfl rfl (by simp only [InR, List.length_map]; omega) ?_ | refine i_ixm rfl rfl (by assumption) ?_ | refine i_iai rfl rfl (by omega) (by assumption) rfl ?_ | refine i_iam rfl rfl (by assumption) rfl ?_ | refine i_tk rfl rfl (by omega) ?_ | refine i_stb rfl ?_ | refine i_alloc rfl ?_ | refine i_box rfl rfl ?_ | refine i_nv rfl ?_)
      refine e_for hlt trivial ⟨⟨rfl, rfl, ?_, rfl, rfl, rfl, trivial⟩, ⟨?_, trivial⟩, rfl⟩
      · rw [ef]; rfl
      · rw [ef]; rfl
  · have hge : k = s.length := by have : ¬ k < s.length := by simpa using h
                                  omega
    subst hge
    rw [List.take_length] at hfl ⊢
    clear h hk
    generalize s.filter p = F at *
    repeat (first | refine i_len rfl ?_ | refine i_s rfl ?_ | refine i_lenm rfl rfl rfl ?_ | refine c_seq ?_ | refine c_cut0 ?_ | refine c_ops ?_ | refine i_nil ?_ | refine e_seq ?_ | refine e_block ?_ | refine c_block ?_ | refine c_skip ?_ | refine c_ret ?_ | refine c_exit ?_ | refine e_exit rfl ?_ | refine i_s0 rfl ?_ | refine c_leaf ?_ | refine i_gt rfl ?_ | refine i_gf rfl ?_ | refine i_gd rfl ?_ | refine c_t rfl ?_ | refine c_f rfl ?_ | refine i_conv rfl (by simp only [InR, List.length_map]; omega) ?_ | refine i_add rfl rfl (by simp only [InR, List.length_map]; omega) ?_ | refine i_sub rfl rfl (by simp only [InR, List.length_map]; omega) ?_ | refine i_ixm rfl rfl (by assumption) ?_ | refine i_iai rfl rfl (by omega) (by assumption) rfl ?_ | refine i_iam rfl rfl (by assumption) rfl ?_ | refine i_tk rfl rfl (by omega) ?_ | refine i_stb rfl ?_ | refine i_alloc rfl ?_ | refine i_box rfl rfl ?_ | refine i_nv rfl ?_)
    refine i_appmM add rfl rfl rfl rfl rfl (fun c hc => ⟨rfl, rfl⟩) (by omega) (by omega) ?_
    refine i_s rfl ?_
    refine i_nil ?_
    refine e_seq ?_
    refine c_cut [(7, .msl 3456449 (F.length + 1) 0 (F ++ add).length)] [(3456449, .arr (F.length + 1) ((F ++ add).map i64V))] ⟨by repeat (first | exact trivial | refine ⟨rfl, ?_⟩), by repeat (first | exact trivial | refine ⟨rfl, ?_⟩), rfl⟩ ?_
    have hla : (F ++ add).length ≤ 35184372088 := by simp; omega
    generalize F ++ add = L at *
    repeat (first | refine i_len rfl ?_ | refine i_s rfl ?_ | refine i_lenm rfl rfl rfl ?_ | refine c_seq ?_ | refine c_cut0 ?_ | refine c_ops ?_ | refine i_nil ?_ | refine e_seq ?_ | refine e_block ?_ | refine c_block ?_ | refine c_skip ?_ | refine c_ret ?_ | refine c_exit ?_ | refine e_exit rfl ?_ | refine i_s0 rfl ?_ | refine c_leaf ?_ | refine i_gt rfl ?_ | refine i_gf rfl ?_ | refine i_gd rfl ?_ | refine c_t rfl ?_ | refine c_f rfl ?_ | refine i_conv rfl (by simp only [InR, List.length_map]; omega) ?_ | refine i_add rfl rfl (by simp only [InR, List.length_map]; omega) ?_ | refine i_sub rfl rfl (by simp only [InR, List.length_map]; omega) ?_ | refine i_ixm rfl rfl (by assumption) ?_ | refine i_iai rfl rfl (by omega) (by assumption) rfl ?_ | refine i_iam rfl rfl (by assumption) rfl ?_ | refine i_tk rfl rfl (by omega) ?_ | refine i_stb rfl ?_ | refine i_alloc rfl ?_ | refine i_box rfl rfl ?_ | refine i_nv rfl ?_)
    refine i_c rfl rfl rfl (c_Sort 3456449 (F.length + 1) L rfl rfl (fun nm h => restr_mem nm h) (by omega)) ?_
    rintro _ _ _ ⟨rfl, rfl, rfl⟩
    refine i_nil ?_
    refine e_seq ?_
    refine c_cut [(7, .msl 3456449 (F.length + 1) 0 (srtL L).length)] [(3456449, .arr (F.length + 1) ((srtL L).map i64V))] ⟨⟨?_, trivial⟩, ⟨rfl, trivial⟩, rfl⟩ ?_
    · rw [srtL_len]; rfl
    repeat (first | refine i_len rfl ?_ | refine i_s rfl ?_ | refine i_lenm rfl rfl rfl ?_ | refine c_seq ?_ | refine c_cut0 ?_ | refine c_ops ?_ | refine i_nil ?_ | refine e_seq ?_ | refine e_block ?_ | refine c_block ?_ | refine c_skip ?_ | refine c_ret ?_ | refine c_exit ?_ | refine e_exit rfl ?_ | refine i_s0 rfl ?_ | refine c_leaf ?_ | refine i_gt rfl ?_ | refine i_gf rfl ?_ | refine i_gd rfl ?_ | refine c_t rfl ?_ | refine c_f rfl ?_ | refine i_conv rfl (by simp only [InR, List.length_map]; omega) ?_ | refine i_add rfl rfl (by simp only [InR, List.length_map]; omega) ?_ | refine i_sub rfl rfl (by simp only [InR, List.length_map]; omega) ?_ | refine i_ixm rfl rfl (by assumption) ?_ | refine i_iai rfl rfl (by omega) (by assumption) rfl ?_ | refine i_iam rfl rfl (by assumption) rfl ?_ | refine i_tk rfl rfl (by omega) ?_ | refine i_stb rfl ?_ | refine i_alloc rfl ?_ | refine i_box rfl rfl ?_ | refine i_nv rfl ?_)
    refine i_c rfl rfl rfl (c_Compact (F.length + 1) (srtL L) (by rw [srtL_len]; omega) _ _ rfl (fun nm h => restr_mem nm h)) ?_
    rintro _ _ _ ⟨⟨rows, rfl, rfl, hr⟩, rfl⟩
    repeat (first | refine i_len rfl ?_ | refine i_s rfl ?_ | refine i_lenm rfl rfl rfl ?_ | refine c_seq ?_ | refine c_cut0 ?_ | refine c_ops ?_ | refine i_nil ?_ | refine e_seq ?_ | refine e_block ?_ | refine c_block ?_ | refine c_skip ?_ | refine c_ret ?_ | refine c_exit ?_ | refine e_exit rfl ?_ | refine i_s0 rfl ?_ | refine c_leaf ?_ | refine i_gt rfl ?_ | refine i_gf rfl ?_ | refine i_gd rfl ?_ | refine c_t rfl ?_ | refine c_f rfl ?_ | refine i_conv rfl (by simp only [InR, List.length_map]; omega) ?_ | refine i_add rfl rfl (by simp only [InR, List.length_map]; omega) ?_ | refine i_sub rfl rfl (by simp only [InR, List.length_map]; omega) ?_ | refine i_ixm rfl rfl (by assumption) ?_ | refine i_iai rfl rfl (by omega) (by assumption) rfl ?_ | refine i_iam rfl rfl (by assumption) rfl ?_ | refine i_tk rfl rfl (by omega) ?_ | refine i_stb rfl ?_ | refine i_alloc rfl ?_ | refine i_box rfl rfl ?_ | refine i_nv rfl ?_)
    exact e_ret ⟨rfl, _, rfl, ((er_msl (rows := rows) (i := 0) (len := (compL (srtL L)).length) (n := 5) rfl).trans (by rw [List.drop_zero, hr])).symm⟩
def c_strips_Can : Cmd :=
  (.seq
   (.ops [
   .op (some 3) none (.box 2880196 4 (.t 0)),
   .op (some 6) none (.mov (.c (.bool false)))])
   (.cut
   (.seq
   (.ops [
   .op (some 7) none (.mov (.t 1)),
   .op (some 8) none (.faddr 3 (.t 3)),
   .op (some 9) none (.load false 1 (.t 8)),
   .op (some 10) none (.mov (.t 2)),
   .op (some 11) none (.iaddr 4 (.t 9) (.t 10)),
   .op (some 12) none (.faddr 0 (.t 11)),
   .op (some 13) none (.load false 1 (.t 12)),
   .op (some 14) none (.call .f (.c (.fn 29 [])) [.t 7, .t 13]),
   .op (some 6) none (.mov (.t 14))])
   .ret)))
def r_strips_Can : List RVar := [.tmp 6]
def n_strips_Can : Nat := 15
theorem k_strips_Can : chkFn Go.Proofs.Try.prog 45 n_strips_Can r_strips_Can c_strips_Can = true := by kernel_rfl
theorem f_strips_Can (t : STask) (s : List Int) (hs : s.length ≤ 140737488355328) (hss : SS s) (op : Int) (h0 : 0 ≤ op) (o : SOp) (hc : t.ops[op.toNat]? = some o) (hl : o.pre.length ≤ 140737488355328) (hp : SS o.pre) : Fc Go.Proofs.Try.prog 45 [skV t, .sl .p (s.map i64V), .int .i64 op] (.bool (inclB o.pre s)) := by
  have h1 := f_strips_Contains s o.pre hs hl hss hp
  refine Fn.step mixed k_strips_Can ?_
  repeat' (first | refine i_len rfl ?_ | refine i_s rfl ?_ | refine i_lenm rfl rfl rfl ?_ | refine c_seq ?_ | refine c_cut0 ?_ | refine c_ops ?_ | refine i_nil ?_ | refine e_seq ?_ | refine e_block ?_ | refine c_block ?_ | refine c_skip ?_ | refine c_ret ?_ | refine c_exit ?_ | refine e_exit rfl ?_ | refine i_s0 rfl ?_ | refine c_leaf ?_ | refine i_gt rfl ?_ | refine i_gf rfl ?_ | refine i_gd rfl ?_ | refine c_t rfl ?_ | refine c_f rfl ?_ | refine i_conv rfl (by simp only [InR, List.length_map]; omega) ?_ | refine i_add rfl rfl (by simp only [InR, List.length_map]; omega) ?_ | refine i_sub rfl rfl (by simp only [InR, List.length_map]; omega) ?_ | refine i_ixm rfl rfl (by assumption) ?_ | refine i_iai rfl rfl (by omega) (by assumption) rfl ?_ | refine i_iam rfl rfl (by assumption) rfl ?_ | refine i_tk rfl rfl (by omega) ?_ | refine i_stb rfl ?_ | refine i_alloc rfl ?_ | refine i_box rfl rfl ?_ | refine i_nv rfl ?_ | refine c_node ?_ ?_ | refine i_g rfl (fun h => ?_) (fun h => ?_) | refine c_cond rfl (fun h => ?_) (fun h => ?_) | refine i_f rfl rfl (h1) rfl ?_)
  exact e_ret ⟨rfl, _, rfl, rfl⟩
def c_strips_Next : Cmd :=
  (.seq
   (.ops [
   .op (some 3) none (.box 2944196 4 (.t 0)),
   .op (some 6) none (.mov (.c (.sl .nil [])))])
   (.cut
   (.seq
   (.ops [
   .op (some 8) none (.faddr 3 (.t 3)),
   .op (some 9) none (.load false 1 (.t 8)),
   .op (some 10) none (.mov (.t 2)),
   .op (some 11) none (.iaddr 4 (.t 9) (.t 10)),
   .op (some 12) none (.load true 4 (.t 11)),
   .op (some 7) none (.alloc 2944452 (.agg [.sl .nil [], .sl .nil [], .sl .nil [], .int .i64 (0)])),
   .op none none (.store 4 (.t 7) (.t 12))])
   (.cut
   (.seq
   (.ops [
   .op (some 13) none (.mov (.t 1)),
   .op (some 14) none (.faddr 1 (.t 7)),
   .op (some 15) none (.load false 1 (.t 14)),
   .op (some 16) none (.faddr 2 (.t 7)),
   .op (some 17) none (.load false 1 (.t 16)),
   .op (some 18) none (.call .f (.c (.fn 54 [])) [.t 13, .t 15, .t 17]),
   .op (some 6) none (.mov (.t 18))])
   .ret)))))
def r_strips_Next : List RVar := [.tmp 6]
def n_strips_Next : Nat := 19
theorem k_strips_Next : chkFn Go.Proofs.Try.prog 46 n_strips_Next r_strips_Next c_strips_Next = true := by kernel_rfl
theorem f_strips_Next (t : STask) (s : List Int) (hs : s.length ≤ 17592186044) (op : Int) (h0 : 0 ≤ op) (o : SOp) (hc : t.ops[op.toNat]? = some o) (ha : o.add.length ≤ 17592186044) (hd : o.del.length ≤ 17592186044) (hdel : SS o.del) : Fc Go.Proofs.Try.prog 46 [skV t, .sl .p (s.map i64V), .int .i64 op] (.sl .p ((updL s o.add o.del).map i64V)) := by
  have h1 := f_strips_Update s o.add o.del hs ha hd hdel
  refine Fn.step mixed k_strips_Next ?_
  repeat' (first | refine i_len rfl ?_ | refine i_s rfl ?_ | refine i_lenm rfl rfl rfl ?_ | refine c_seq ?_ | refine c_cut0 ?_ | refine c_ops ?_ | refine i_nil ?_ | refine e_seq ?_ | refine e_block ?_ | refine c_block ?_ | refine c_skip ?_ | refine c_ret ?_ | refine c_exit ?_ | refine e_exit rfl ?_ | refine i_s0 rfl ?_ | refine c_leaf ?_ | refine i_gt rfl ?_ | refine i_gf rfl ?_ | refine i_gd rfl ?_ | refine c_t rfl ?_ | refine c_f rfl ?_ | refine i_conv rfl (by simp only [InR, List.length_map]; omega) ?_ | refine i_add rfl rfl (by simp only [InR, List.length_map]; omega) ?_ | refine i_sub rfl rfl (by simp only [InR, List.length_map]; omega) ?_ | refine i_ixm rfl rfl (by assumption) ?_ | refine i_iai rfl rfl (by omega) (by assumption) rfl ?_ | refine i_iam rfl rfl (by assumption) rfl ?_ | refine i_tk rfl rfl (by omega) ?_ | refine i_stb rfl ?_ | refine i_alloc rfl ?_ | refine i_box rfl rfl ?_ | refine i_nv rfl ?_ | refine c_node ?_ ?_ | refine i_g rfl (fun h => ?_) (fun h => ?_) | refine c_cond rfl (fun h => ?_) (fun h => ?_) | refine i_f rfl rfl (h1) rfl ?_)
  exact e_ret ⟨rfl, _, rfl, rfl⟩
def c_R1_Applies : Cmd :=
  (.seq
   (.ops [
   .op (some 3) none (.box 3008196 4 (.t 0)),
   .op (some 6) none (.mov (.c (.bool false)))])
   (.cut
   (.seq
   (.ops [
   .op (some 7) none (.faddr 3 (.t 3)),
   .op (some 8) none (.load false 1 (.t 7)),
   .op (some 9) none (.mov (.t 2)),
   .op (some 10) none (.iaddr 4 (.t 8) (.t 9)),
   .op (some 11) none (.faddr 0 (.t 10)),
   .op (some 12) none (.load false 1 (.t 11)),
   .op (some 13) none (.mov (.t 1)),
   .op (some 14) none (.call .f (.c (.fn 55 [])) [.t 12, .t 13]),
   .op (some 6) none (.mov (.t 14))])
   .ret)))
def r_R1_Applies : List RVar := [.tmp 6]
def n_R1_Applies : Nat := 15
theorem k_R1_Applies : chkFn Go.Proofs.Try.prog 47 n_R1_Applies r_R1_Applies c_R1_Applies = true := by kernel_rfl
theorem f_R1_Applies (t : STask) (s : List Int) (hs : s.length ≤ 140737488355328) (op : Int) (h0 : 0 ≤ op) (o : SOp) (hc : t.ops[op.toNat]? = some o) (hl : o.pre.length ≤ 140737488355328) : Fc Go.Proofs.Try.prog 47 [skV t, .sl .p (s.map i64V), .int .i64 op] (.bool (inclB o.pre s)) := by
  have h1 := f_R1_Subset o.pre s hl hs
  refine Fn.step mixed k_R1_Applies ?_
  repeat' (first | refine i_len rfl ?_ | refine i_s rfl ?_ | refine i_lenm rfl rfl rfl ?_ | refine c_seq ?_ | refine c_cut0 ?_ | refine c_ops ?_ | refine i_nil ?_ | refine e_seq ?_ | refine e_block ?_ | refine c_block ?_ | refine c_skip ?_ | refine c_ret ?_ | refine c_exit ?_ | refine e_exit rfl ?_ | refine i_s0 rfl ?_ | refine c_leaf ?_ | refine i_gt rfl ?_ | refine i_gf rfl ?_ | refine i_gd rfl ?_ | refine c_t rfl ?_ | refine c_f rfl ?_ | refine i_conv rfl (by simp only [InR, List.length_map]; omega) ?_ | refine i_add rfl rfl (by simp only [InR, List.length_map]; omega) ?_ | refine i_sub rfl rfl (by simp only [InR, List.length_map]; omega) ?_ | refine i_ixm rfl rfl (by assumption) ?_ | refine i_iai rfl rfl (by omega) (by assumption) rfl ?_ | refine i_iam rfl rfl (by assumption) rfl ?_ | refine i_tk rfl rfl (by omega) ?_ | refine i_stb rfl ?_ | refine i_alloc rfl ?_ | refine i_box rfl rfl ?_ | refine i_nv rfl ?_ | refine c_node ?_ ?_ | refine i_g rfl (fun h => ?_) (fun h => ?_) | refine c_cond rfl (fun h => ?_) (fun h => ?_) | refine i_f rfl rfl (h1) rfl ?_)
  exact e_ret ⟨rfl, _, rfl, rfl⟩
end Hm
end

section
/- Contracts: operators that apply; states after plans. -/
namespace Hm
open Go
set_option maxRecDepth 100000
set_option maxHeartbeats 2000000
set_option linter.unusedSimpArgs false
set_option linter.unusedVariables false
/-- A range that changes the state in every round alike. -/
theorem YL_all {G : Type} {α : Type} {f : α → List V} (st : List α → G) {H' : HT G} (hM : MonoH H') {K : G → Prop} (L : List α) (hH : ∀ (pre : List α) (c : α) (r : List α), pre ++ c :: r = L → ∀ K : V → G → Prop, K (.bool true) (st (pre ++ [c])) → H' (f c) (st pre) K) (hk : K (st L)) :
    ∀ (l pre : List α), pre ++ l = L → YL H' (l.map f) (st pre) K
  | [], pre, h => by
    have : pre = L := by simpa using h
    subst this
    exact hk
  | c :: r, pre, h => hH pre c r h _ (.inl ⟨rfl, YL_all st hM L hH hk r (pre ++ [c]) (by simpa using h)⟩)
def ssV (s : List Int) : V := .sl .p (s.map i64V)
def succF (s : List Int) : Nat → List SOp → List (Int × List Int)
  | _, [] => []
  | k, o :: r => if inclB o.pre s = true then ((k : Int), updL s o.add o.del) :: succF s (k + 1) r else succF s (k + 1) r
def yV (p : Int × List Int) : List V := [.int .i64 p.1, ssV p.2]
theorem sv_op {t : STask} (hv : SV t) {k : Nat} {o : SOp} (h : t.ops[k]? = some o) : SOv t.facts o := hv.op o (mem_get h)
theorem set_le {t : STask} (hv : SV t) {l : List Int} (h : IsSet t.facts l) : l.length ≤ 24 := by
  have := isSet_len h hv.f0
  have := hv.f1
  omega
def appS (t : STask) (s : List Int) : List Int := (succF s 0 t.ops).map (·.1)
theorem succF_len (s : List Int) : ∀ (k : Nat) (l : List SOp), (succF s k l).length ≤ l.length
  | _, [] => by simp [succF]
  | k, o :: r => by
    have := succF_len s (k + 1) r
    simp only [succF]
    split <;> simp <;> omega
end Hm
end

section
/- States that plans reach, in plain terms. No program in sight. -/
namespace Hm
set_option linter.unusedVariables false
set_option linter.unusedSimpArgs false
open Go
def stepS (t : STask) (s : List Int) (op : Int) : Option (List Int) := match t.ops[op.toNat]? with
  | some o => if inclB o.pre s = true then some (updL s o.add o.del) else none
  | none => none
def runT (t : STask) : List Int → List Int → List (List Int)
  | _, [] => []
  | s, op :: r => match stepS t s op with
    | some s' => s' :: runT t s' r
    | none => []
def endS (t : STask) : List Int → List Int → Option (List Int)
  | s, [] => some s
  | s, op :: r => match stepS t s op with
    | some s' => endS t s' r
    | none => none
theorem run_get (t : STask) : ∀ (plan s : List Int), (s :: runT t s plan)[plan.length]? = endS t s plan
  | [], s => rfl
  | op :: r, s => by
    simp only [runT, endS]
    cases h : stepS t s op with
    | none => simp
    | some s' => simpa using run_get t r s'
theorem run_len_le (t : STask) : ∀ (plan s : List Int), (runT t s plan).length ≤ plan.length
  | [], s => by simp [runT]
  | op :: r, s => by
    simp only [runT]
    cases h : stepS t s op with
    | none => simp
    | some s' => have := run_len_le t r s'; simp; omega
theorem run_len_eq (t : STask) (plan s : List Int) : (runT t s plan).length = plan.length ↔ (endS t s plan).isSome = true := by
  rw [← run_get]
  have := run_len_le t plan s
  constructor
  · intro h
    rw [List.getElem?_eq_getElem (by simp; omega)]
    rfl
  · intro h
    obtain ⟨e, he⟩ := Option.isSome_iff_exists.1 h
    have := get_lt he
    simp at this
    omega
theorem run_at (t : STask) : ∀ (plan s : List Int) (i : Nat), i ≤ plan.length → (s :: runT t s plan)[i]? = endS t s (plan.take i)
  | _, s, 0, _ => by simp [endS]
  | [], s, i + 1, h => by simp at h
  | op :: r, s, i + 1, h => by
    simp only [runT, endS, List.take_succ_cons]
    cases hst : stepS t s op with
    | none => simp
    | some s' => simpa using run_at t r s' i (by simpa using h)
theorem run_fail {t : STask} {plan s : List Int} {i : Nat} {e : List Int} (hi : i < plan.length) (h : endS t s (plan.take i) = some e) (hn : endS t s (plan.take (i + 1)) = none) : (runT t s plan).length = i := by
  rw [← run_at t plan s i (by omega)] at h
  rw [← run_at t plan s (i + 1) (by omega)] at hn
  have h1 := get_lt h
  have h2 := List.getElem?_eq_none_iff.1 hn
  simp at h1 h2
  omega
theorem run_all {t : STask} {plan s e : List Int} (h : endS t s plan = some e) : (runT t s plan).length = plan.length := (run_len_eq t plan s).2 (by rw [h]; rfl)
def worksB (t : STask) (s plan : List Int) : Bool := match endS t s plan with
  | some e => inclB t.goal e
  | none => false
def costAtS (t : STask) (op : Int) : Int := match t.ops[op.toNat]? with
  | some o => o.cost
  | none => 0
def costS (t : STask) : List Int → Int
  | [] => 0
  | op :: r => costAtS t op + costS t r
theorem costS_append (t : STask) : ∀ (a b : List Int), costS t (a ++ b) = costS t a + costS t b
  | [], b => by simp [costS]
  | x :: a, b => by simp only [List.cons_append, costS, costS_append t a b]; omega
theorem costS_snoc (t : STask) (l : List Int) (op : Int) : costS t (l ++ [op]) = costS t l + costAtS t op := by
  rw [costS_append]; simp [costS]
theorem costAtS_range {t : STask} (hv : SV t) (op : Int) : 0 ≤ costAtS t op ∧ costAtS t op ≤ 100 := by
  unfold costAtS
  split
  · rename_i o h
    have := hv.op o (mem_get h)
    exact ⟨this.c0, this.c1⟩
  · omega
theorem costS_range {t : STask} (hv : SV t) : ∀ l : List Int, 0 ≤ costS t l ∧ costS t l ≤ 100 * l.length
  | [] => by simp [costS]
  | op :: r => by
    have h1 := costAtS_range hv op
    have h2 := costS_range hv r
    simp only [costS, List.length_cons]
    omega
theorem endS_append (t : STask) : ∀ (a s b : List Int), endS t s (a ++ b) = match endS t s a with
    | some s' => endS t s' b
    | none => none
  | [], s, b => rfl
  | op :: r, s, b => by
    simp only [List.cons_append, endS]
    cases h : stepS t s op with
    | none => rfl
    | some s' => exact endS_append t r s' b
theorem stepS_set {t : STask} (hv : SV t) {s s' : List Int} {op : Int} (hs : IsSet t.facts s) (h : stepS t s op = some s') : IsSet t.facts s' := by
  unfold stepS at h
  split at h
  · rename_i o ho
    split at h
    · cases h
      exact updL_set hs (hv.op o (mem_get ho)).add
    · cases h
  · cases h
theorem endS_set {t : STask} (hv : SV t) : ∀ (plan s e : List Int), IsSet t.facts s → endS t s plan = some e → IsSet t.facts e
  | [], s, e, hs, h => by cases h; exact hs
  | op :: r, s, e, hs, h => by
    simp only [endS] at h
    cases h2 : stepS t s op with
    | none => rw [h2] at h; cases h
    | some s' => rw [h2] at h; exact endS_set hv r s' e (stepS_set hv hs h2) h
theorem stepS_op {t : STask} {s : List Int} {op : Int} {o : SOp} (ho : t.ops[op.toNat]? = some o) : stepS t s op = if inclB o.pre s = true then some (updL s o.add o.del) else none := by
  unfold stepS; rw [ho]
/-- The state after k steps. -/
theorem endS_take_succ {t : STask} {s plan : List Int} {k : Nat} {x : Int} {s' : List Int} (h : endS t s (plan.take k) = some s') (hx : plan[k]? = some x) : endS t s (plan.take (k + 1)) = stepS t s' x := by
  rw [take_succ_get hx, endS_append, h]
  simp only [endS]
  cases stepS t s' x <;> rfl
def appAtS (t : STask) (s : List Int) (i : Nat) : Bool := match t.ops[i]? with
  | some o => inclB o.pre s
  | none => false
theorem facts_nat {t : STask} (hv : SV t) : ((t.facts.toNat : Nat) : Int) = t.facts := by have := hv.f0; omega
end Hm
end

section
/- Contracts: single steps; plans that are run. -/
namespace Hm
open Go
set_option maxRecDepth 100000
set_option maxHeartbeats 2000000
set_option linter.unusedSimpArgs false
set_option linter.unusedVariables false
theorem appS_sel (t : STask) (s : List Int) : appS t s = selK (appAtS t s) t.ops.length := by
  have key : ∀ (l : List SOp) (k : Nat), t.ops.drop k = l → selK (appAtS t s) k ++ (succF s k l).map (·.1) = selK (appAtS t s) (k + l.length) := by
    intro l
    induction l with
    | nil => intro k _; simp [succF]
    | cons o r ih =>
      intro k hk
      have hx : t.ops[k]? = some o := by
        have := congrArg (fun l => l[0]?) hk
        simpa using this
      have hd : t.ops.drop (k + 1) = r := by rw [← List.tail_drop, hk]; rfl
      have := ih (k + 1) hd
      rw [selK_succ, show appAtS t s k = inclB o.pre s from by simp [appAtS, hx]] at this
      simp only [succF, List.length_cons]
      rw [show k + (r.length + 1) = k + 1 + r.length from by omega, ← this]
      split <;> simp
  have := key t.ops 0 rfl
  unfold appS
  simpa [selK] using this
def c_slices_Clone_int : Cmd :=
  (.seq
   (.ops [
   .op (some 2) none (.mov (.c (.sl .nil [])))])
   (.cut
   (.seq
   (.seq
   (.ops [
   .op (some 3) none (.mov (.t 0)),
   .op (some 4) none (.isnil false (.t 3))])
   (.cut
   (.cond (.t 4)
   (.seq
   (.ops [
   .op (some 2) none (.newArr 2176321)])
   .ret)
   .skip)))
   (.cut
   (.seq
   (.ops [
   .op (some 5) none (.bslA 2176321 1 []),
   .op (some 6) none (.mov (.t 0)),
   .op (some 7) none (.append 1 8 (.t 5) (.t 6)),
   .op (some 2) none (.mov (.t 7))])
   .ret)))))
def r_slices_Clone_int : List RVar := [.tmp 2]
def n_slices_Clone_int : Nat := 8
theorem k_slices_Clone_int : chkFn Go.Proofs.Try.prog 34 n_slices_Clone_int r_slices_Clone_int c_slices_Clone_int = true := by kernel_rfl
theorem f_slices_Clone_int (s : List Int) (hl : s.length ≤ 17592186044416) : Fc Go.Proofs.Try.prog 34 [.sl .p (s.map i64V)] (.sl .p (s.map i64V)) := by
  refine Fn.step mixed k_slices_Clone_int ?_
  repeat (first | refine i_len rfl ?_ | refine i_s rfl ?_ | refine i_lenm rfl rfl rfl ?_ | refine c_seq ?_ | refine c_cut0 ?_ | refine c_ops ?_ | refine i_nil ?_ | refine e_seq ?_ | refine e_block ?_ | refine c_block ?_ | refine c_skip ?_ | refine c_ret ?_ | refine c_exit ?_ | refine e_exit rfl ?_ | refine i_s0 rfl ?_ | refine c_leaf ?_ | refine i_gt rfl ?_ | refine i_gf rfl ?_ | refine i_gd rfl ?_ | refine c_t rfl ?_ | refine c_f rfl ?_ | refine i_conv rfl (by simp only [InR, List.length_map]; omega) ?_ | refine i_add rfl rfl (by simp only [InR, List.length_map]; omega) ?_ | refine i_sub rfl rfl (by simp only [InR, List.length_map]; omega) ?_ | refine i_ixm rfl rfl (by assumption) ?_ | refine i_iai rfl rfl (by omega) (by assumption) rfl ?_ | refine i_iam rfl rfl (by assumption) rfl ?_ | refine i_tk rfl rfl (by omega) ?_ | refine i_stb rfl ?_ | refine i_alloc rfl ?_ | refine i_box rfl rfl ?_ | refine i_nv rfl ?_)
  refine i_isnil rfl fun b hb => ?_
  repeat (first | refine i_len rfl ?_ | refine i_s rfl ?_ | refine i_lenm rfl rfl rfl ?_ | refine c_seq ?_ | refine c_cut0 ?_ | refine c_ops ?_ | refine i_nil ?_ | refine e_seq ?_ | refine e_block ?_ | refine c_block ?_ | refine c_skip ?_ | refine c_ret ?_ | refine c_exit ?_ | refine e_exit rfl ?_ | refine i_s0 rfl ?_ | refine c_leaf ?_ | refine i_gt rfl ?_ | refine i_gf rfl ?_ | refine i_gd rfl ?_ | refine c_t rfl ?_ | refine c_f rfl ?_ | refine i_conv rfl (by simp only [InR, List.length_map]; omega) ?_ | refine i_add rfl rfl (by simp only [InR, List.length_map]; omega) ?_ | refine i_sub rfl rfl (by simp only [InR, List.length_map]; omega) ?_ | refine i_ixm rfl rfl (by assumption) ?_ | refine i_iai rfl rfl (by omega) (by assumption) rfl ?_ | refine i_iam rfl rfl (by assumption) rfl ?_ | refine i_tk rfl rfl (by omega) ?_ | refine i_stb rfl ?_ | refine i_alloc rfl ?_ | refine i_box rfl rfl ?_ | refine i_nv rfl ?_)
  refine c_cond rfl (fun h => ?_) (fun h => ?_)
  · have e : s = [] := by simpa using hb (by simpa using h)
    subst e
    repeat (first | refine i_len rfl ?_ | refine i_s rfl ?_ | refine i_lenm rfl rfl rfl ?_ | refine c_seq ?_ | refine c_cut0 ?_ | refine c_ops ?_ | refine i_nil ?_ | refine e_seq ?_ | refine e_block ?_ | refine c_block ?_ | refine c_skip ?_ | refine c_ret ?_ | refine c_exit ?_ | refine e_exit rfl ?_ | refine i_s0 rfl ?_ | refine c_leaf ?_ | refine i_gt rfl ?_ | refine i_gf rfl ?_ | refine i_gd rfl ?_ | refine c_t rfl ?_ | refine c_f rfl ?_ | refine i_conv rfl (by simp only [InR, List.length_map]; omega) ?_ | refine i_add rfl rfl (by simp only [InR, List.length_map]; omega) ?_ | refine i_sub rfl rfl (by simp only [InR, List.length_map]; omega) ?_ | refine i_ixm rfl rfl (by assumption) ?_ | refine i_iai rfl rfl (by omega) (by assumption) rfl ?_ | refine i_iam rfl rfl (by assumption) rfl ?_ | refine i_tk rfl rfl (by omega) ?_ | refine i_stb rfl ?_ | refine i_alloc rfl ?_ | refine i_box rfl rfl ?_ | refine i_nv rfl ?_)
    refine i_na rfl ?_
    repeat (first | refine i_len rfl ?_ | refine i_s rfl ?_ | refine i_lenm rfl rfl rfl ?_ | refine c_seq ?_ | refine c_cut0 ?_ | refine c_ops ?_ | refine i_nil ?_ | refine e_seq ?_ | refine e_block ?_ | refine c_block ?_ | refine c_skip ?_ | refine c_ret ?_ | refine c_exit ?_ | refine e_exit rfl ?_ | refine i_s0 rfl ?_ | refine c_leaf ?_ | refine i_gt rfl ?_ | refine i_gf rfl ?_ | refine i_gd rfl ?_ | refine c_t rfl ?_ | refine c_f rfl ?_ | refine i_conv rfl (by simp only [InR, List.length_map]; omega) ?_ | refine i_add rfl rfl (by simp only [InR, List.length_map]; omega) ?_ | refine i_sub rfl rfl (by simp only [InR, List.length_map]; omega) ?_ | refine i_ixm rfl rfl (by assumption) ?_ | refine i_iai rfl rfl (by omega) (by assumption) rfl ?_ | refine i_iam rfl rfl (by assumption) rfl ?_ | refine i_tk rfl rfl (by omega) ?_ | refine i_stb rfl ?_ | refine i_alloc rfl ?_ | refine i_box rfl rfl ?_ | refine i_nv rfl ?_)
    exact e_ret ⟨rfl, _, rfl, rfl⟩
  · repeat (first | refine i_len rfl ?_ | refine i_s rfl ?_ | refine i_lenm rfl rfl rfl ?_ | refine c_seq ?_ | refine c_cut0 ?_ | refine c_ops ?_ | refine i_nil ?_ | refine e_seq ?_ | refine e_block ?_ | refine c_block ?_ | refine c_skip ?_ | refine c_ret ?_ | refine c_exit ?_ | refine e_exit rfl ?_ | refine i_s0 rfl ?_ | refine c_leaf ?_ | refine i_gt rfl ?_ | refine i_gf rfl ?_ | refine i_gd rfl ?_ | refine c_t rfl ?_ | refine c_f rfl ?_ | refine i_conv rfl (by simp only [InR, List.length_map]; omega) ?_ | refine i_add rfl rfl (by simp only [InR, List.length_map]; omega) ?_ | refine i_sub rfl rfl (by simp only [InR, List.length_map]; omega) ?_ | refine i_ixm rfl rfl (by assumption) ?_ | refine i_iai rfl rfl (by omega) (by assumption) rfl ?_ | refine i_iam rfl rfl (by assumption) rfl ?_ | refine i_tk rfl rfl (by omega) ?_ | refine i_stb rfl ?_ | refine i_alloc rfl ?_ | refine i_box rfl rfl ?_ | refine i_nv rfl ?_)
    refine i_bsla rfl rfl rfl rfl ?_
    repeat (first | refine i_len rfl ?_ | refine i_s rfl ?_ | refine i_lenm rfl rfl rfl ?_ | refine c_seq ?_ | refine c_cut0 ?_ | refine c_ops ?_ | refine i_nil ?_ | refine e_seq ?_ | refine e_block ?_ | refine c_block ?_ | refine c_skip ?_ | refine c_ret ?_ | refine c_exit ?_ | refine e_exit rfl ?_ | refine i_s0 rfl ?_ | refine c_leaf ?_ | refine i_gt rfl ?_ | refine i_gf rfl ?_ | refine i_gd rfl ?_ | refine c_t rfl ?_ | refine c_f rfl ?_ | refine i_conv rfl (by simp only [InR, List.length_map]; omega) ?_ | refine i_add rfl rfl (by simp only [InR, List.length_map]; omega) ?_ | refine i_sub rfl rfl (by simp only [InR, List.length_map]; omega) ?_ | refine i_ixm rfl rfl (by assumption) ?_ | refine i_iai rfl rfl (by omega) (by assumption) rfl ?_ | refine i_iam rfl rfl (by assumption) rfl ?_ | refine i_tk rfl rfl (by omega) ?_ | refine i_stb rfl ?_ | refine i_alloc rfl ?_ | refine i_box rfl rfl ?_ | refine i_nv rfl ?_)
    refine i_appmM (l := []) (f := i64V) s rfl rfl rfl rfl rfl (fun c hc => ⟨rfl, rfl⟩) (by simp; omega) (by simp; omega) ?_
    repeat (first | refine i_len rfl ?_ | refine i_s rfl ?_ | refine i_lenm rfl rfl rfl ?_ | refine c_seq ?_ | refine c_cut0 ?_ | refine c_ops ?_ | refine i_nil ?_ | refine e_seq ?_ | refine e_block ?_ | refine c_block ?_ | refine c_skip ?_ | refine c_ret ?_ | refine c_exit ?_ | refine e_exit rfl ?_ | refine i_s0 rfl ?_ | refine c_leaf ?_ | refine i_gt rfl ?_ | refine i_gf rfl ?_ | refine i_gd rfl ?_ | refine c_t rfl ?_ | refine c_f rfl ?_ | refine i_conv rfl (by simp only [InR, List.length_map]; omega) ?_ | refine i_add rfl rfl (by simp only [InR, List.length_map]; omega) ?_ | refine i_sub rfl rfl (by simp only [InR, List.length_map]; omega) ?_ | refine i_ixm rfl rfl (by assumption) ?_ | refine i_iai rfl rfl (by omega) (by assumption) rfl ?_ | refine i_iam rfl rfl (by assumption) rfl ?_ | refine i_tk rfl rfl (by omega) ?_ | refine i_stb rfl ?_ | refine i_alloc rfl ?_ | refine i_box rfl rfl ?_ | refine i_nv rfl ?_)
    exact e_ret ⟨rfl, _, rfl, ((er_msl (i := 0) (len := ([] ++ s).length) (n := 5) rfl).trans (msl_all rfl)).symm⟩
def c_strips_Run : Cmd :=
  (.seq
   (.ops [
   .op (some 3) none (.box 1792196 4 (.t 0)),
   .op (some 6) none (.mov (.c (.sl .nil [])))])
   (.cut
   (.seq
   (.ops [
   .op (some 10) none (.mov (.t 1)),
   .op (some 11) none (.call .f (.c (.fn 34 [])) [.t 10]),
   .op (some 12) none (.bslO 1792769 1 [.t 11]),
   .op (some 7) none (.mov (.t 12))])
   (.cut
   (.seq
   (.seq
   (.ops [
   .op (some 13) none (.mov (.t 2)),
   .op (some 14) none (.len false (.t 13)),
   .op (some 15) none (.mov (.c (.int .i64 (0))))])
   (.cut
   (.block 0
   (.loop
   (.seq
   (.ops [
   .op (some 16) none (.bin .lss false [] (.t 15) (.t 14))])
   (.cut
   (.seq
   (.cond (.t 16)
   .skip
   (.exit 0))
   (.cut
   (.seq
   (.block 1
   (.seq
   (.ops [
   .op (some 17) none (.iaddr 1 (.t 13) (.t 15)),
   .op (some 18) none (.load false 1 (.t 17)),
   .op (some 9) none (.mov (.t 18))])
   (.cut
   (.seq
   (.seq
   (.ops [
   .op (some 19) none (.load true 4 (.t 3)),
   .op (some 20) none (.mov (.t 1)),
   .op (some 21) none (.mov (.t 9)),
   .op (some 22) none (.call .f (.c (.fn 45 [])) [.t 19, .t 20, .t 21]),
   .op (some 23) none (.not (.t 22))])
   (.cut
   (.cond (.t 23)
   (.exit 0)
   .skip)))
   (.cut
   (.seq
   (.ops [
   .op (some 24) none (.load true 4 (.t 3)),
   .op (some 25) none (.mov (.t 1)),
   .op (some 26) none (.mov (.t 9)),
   .op (some 27) none (.call .f (.c (.fn 46 [])) [.t 24, .t 25, .t 26]),
   .op (some 1) none (.mov (.t 27))])
   (.cut
   (.ops [
   .op (some 28) none (.mov (.t 7)),
   .op (some 29) none (.mov (.t 1)),
   .op (some 30) none (.bsl 1 [.t 29]),
   .op (some 31) none (.append 1 24 (.t 28) (.t 30)),
   .op (some 7) none (.mov (.t 31))]))))))))
   (.cut
   (.ops [
   .op (some 32) none (.bin .add false [] (.t 15) (.c (.int .i64 (1)))),
   .op (some 15) none (.mov (.t 32))])))))))))))
   (.cut
   (.seq
   (.ops [
   .op (some 33) none (.mov (.t 7)),
   .op (some 6) none (.mov (.t 33))])
   .ret)))))))
def r_strips_Run : List RVar := [.tmp 6]
def n_strips_Run : Nat := 34
theorem k_strips_Run : chkFn Go.Proofs.Try.prog 28 n_strips_Run r_strips_Run c_strips_Run = true := by kernel_rfl
theorem f_strips_Run (t : STask) (hv : SV t) (s : List Int) (hs : IsSet t.facts s) (plan : List Int) (hl : plan.length ≤ 1000000) (hp : ∀ x ∈ plan, 0 ≤ x ∧ x < t.ops.length) : Fc Go.Proofs.Try.prog 28 [skV t, .sl .p (s.map i64V), .sl .p (plan.map i64V)] (.sl .p ((s :: runT t s plan).map ssV)) := by
  have hsl := set_le hv hs
  have hC := f_slices_Clone_int s (by omega)
  refine Fn.step mixed k_strips_Run ?_
  repeat (first | refine i_len rfl ?_ | refine i_s rfl ?_ | refine i_lenm rfl rfl rfl ?_ | refine c_seq ?_ | refine c_cut0 ?_ | refine c_ops ?_ | refine i_nil ?_ | refine e_seq ?_ | refine e_block ?_ | refine c_block ?_ | refine c_skip ?_ | refine c_ret ?_ | refine c_exit ?_ | refine e_exit rfl ?_ | refine i_s0 rfl ?_ | refine c_leaf ?_ | refine i_gt rfl ?_ | refine i_gf rfl ?_ | refine i_gd rfl ?_ | refine c_t rfl ?_ | refine c_f rfl ?_ | refine i_conv rfl (by simp only [InR, List.length_map]; omega) ?_ | refine i_add rfl rfl (by simp only [InR, List.length_map]; omega) ?_ | refine i_sub rfl rfl (by simp only [InR, List.length_map]; omega) ?_ | refine i_ixm rfl rfl (by assumption) ?_ | refine i_iai rfl rfl (by omega) (by assumption) rfl ?_ | refine i_iam rfl rfl (by assumption) rfl ?_ | refine i_tk rfl rfl (by omega) ?_ | refine i_stb rfl ?_ | refine i_alloc rfl ?_ | refine i_box rfl rfl ?_ | refine i_nv rfl ?_ | refine i_f rfl rfl (hC) rfl ?_)
  refine i_bslo rfl rfl rfl rfl ?_
  repeat (first | refine i_len rfl ?_ | refine i_s rfl ?_ | refine i_lenm rfl rfl rfl ?_ | refine c_seq ?_ | refine c_cut0 ?_ | refine c_ops ?_ | refine i_nil ?_ | refine e_seq ?_ | refine e_block ?_ | refine c_block ?_ | refine c_skip ?_ | refine c_ret ?_ | refine c_exit ?_ | refine e_exit rfl ?_ | refine i_s0 rfl ?_ | refine c_leaf ?_ | refine i_gt rfl ?_ | refine i_gf rfl ?_ | refine i_gd rfl ?_ | refine c_t rfl ?_ | refine c_f rfl ?_ | refine i_conv rfl (by simp only [InR, List.length_map]; omega) ?_ | refine i_add rfl rfl (by simp only [InR, List.length_map]; omega) ?_ | refine i_sub rfl rfl (by simp only [InR, List.length_map]; omega) ?_ | refine i_ixm rfl rfl (by assumption) ?_ | refine i_iai rfl rfl (by omega) (by assumption) rfl ?_ | refine i_iam rfl rfl (by assumption) rfl ?_ | refine i_tk rfl rfl (by omega) ?_ | refine i_stb rfl ?_ | refine i_alloc rfl ?_ | refine i_box rfl rfl ?_ | refine i_nv rfl ?_)
  refine c_lp (ι := Nat × List Int × List (List Int)) (fun i => [(1, .sl .p (i.2.1.map i64V)), (3, .bptr 1792196 0), (7, .sl (.own 1792769) (i.2.2.map ssV)), (13, .sl .p (plan.map i64V)), (14, .int .i64 plan.length), (15, .int .i64 i.1)])
    (fun i => [(1792196, .box (skV t)), (1792769, .vec i.2.2.length)])
    (fun i => i.1 ≤ plan.length ∧ i.2.2.length = i.1 + 1 ∧ IsSet t.facts i.2.1 ∧ i.2.2 ++ runT t i.2.1 (plan.drop i.1) = s :: runT t s plan) (fun i => plan.length - i.1) (0, s, [s]) ⟨Nat.zero_le _, rfl, hs, rfl⟩ ⟨by repeat (first | exact trivial | refine ⟨rfl, ?_⟩), by repeat (first | exact trivial | refine ⟨rfl, ?_⟩), rfl⟩ fun i hi => ?_
  obtain ⟨k, u, acc⟩ := i
  obtain ⟨h1, h2, h3, h4⟩ := hi
  simp only at h1 h2 h3 h4
  have hul := set_le hv h3
  clear hC hs hsl
  repeat (first | refine i_len rfl ?_ | refine i_s rfl ?_ | refine i_lenm rfl rfl rfl ?_ | refine c_seq ?_ | refine c_cut0 ?_ | refine c_ops ?_ | refine i_nil ?_ | refine e_seq ?_ | refine e_block ?_ | refine c_block ?_ | refine c_skip ?_ | refine c_ret ?_ | refine c_exit ?_ | refine e_exit rfl ?_ | refine i_s0 rfl ?_ | refine c_leaf ?_ | refine i_gt rfl ?_ | refine i_gf rfl ?_ | refine i_gd rfl ?_ | refine c_t rfl ?_ | refine c_f rfl ?_ | refine i_conv rfl (by simp only [InR, List.length_map]; omega) ?_ | refine i_add rfl rfl (by simp only [InR, List.length_map]; omega) ?_ | refine i_sub rfl rfl (by simp only [InR, List.length_map]; omega) ?_ | refine i_ixm rfl rfl (by assumption) ?_ | refine i_iai rfl rfl (by omega) (by assumption) rfl ?_ | refine i_iam rfl rfl (by assumption) rfl ?_ | refine i_tk rfl rfl (by omega) ?_ | refine i_stb rfl ?_ | refine i_alloc rfl ?_ | refine i_box rfl rfl ?_ | refine i_nv rfl ?_)
  refine c_cond rfl (fun h => ?_) (fun h => ?_)
  · have hlt : k < plan.length := by simpa using h
    obtain ⟨x, hx⟩ := get_some hlt
    obtain ⟨x0, x1⟩ := hp x (mem_get hx)
    obtain ⟨o, hc⟩ := get_some (l := t.ops) (k := x.toNat) (by omega)
    have hoo := hv.op o (mem_get hc)
    have hC := f_strips_Can t u (by omega) h3.ss x x0 o hc (by have := set_le hv hoo.pre; omega) hoo.pre.ss
    have hN := f_strips_Next t u (by omega) x x0 o hc (by have := set_le hv hoo.add; omega) (by have := set_le hv hoo.del; omega) hoo.del.ss
    have ed : plan.drop k = x :: plan.drop (k + 1) := by
      obtain ⟨h5, h6⟩ := List.getElem?_eq_some_iff.1 hx
      rw [← h6]; exact List.drop_eq_getElem_cons hlt
    have hst := stepS_op (s := u) hc
    rw [ed] at h4
    simp only [runT, hst] at h4
    clear h
    cases hi : inclB o.pre u with
    | true =>
      rw [hi] at hC
      rw [hi, if_pos rfl] at h4
      repeat (first | refine i_len rfl ?_ | refine i_s rfl ?_ | refine i_lenm rfl rfl rfl ?_ | refine c_seq ?_ | refine c_cut0 ?_ | refine c_ops ?_ | refine i_nil ?_ | refine e_seq ?_ | refine e_block ?_ | refine c_block ?_ | refine c_skip ?_ | refine c_ret ?_ | refine c_exit ?_ | refine e_exit rfl ?_ | refine i_s0 rfl ?_ | refine c_leaf ?_ | refine i_gt rfl ?_ | refine i_gf rfl ?_ | refine i_gd rfl ?_ | refine c_t rfl ?_ | refine c_f rfl ?_ | refine i_conv rfl (by simp only [InR, List.length_map]; omega) ?_ | refine i_add rfl rfl (by simp only [InR, List.length_map]; omega) ?_ | refine i_sub rfl rfl (by simp only [InR, List.length_map]; omega) ?_ | refine i_ixm rfl rfl (by assumption) ?_ | refine i_iai rfl rfl (by omega) (by assumption) rfl ?_ | refine i_iam rfl rfl (by assumption) rfl ?_ | refine i_tk rfl rfl (by omega) ?_ | refine i_stb rfl ?_ | refine i_alloc rfl ?_ | refine i_box rfl rfl ?_ | refine i_nv rfl ?_ | refine i_f rfl rfl (hC) rfl ?_ | refine i_f rfl rfl (hN) rfl ?_)
      refine i_appM (f := ssV) (c := updL u o.add o.del) rfl rfl rfl rfl rfl (by dsimp only; omega) (by dsimp only; omega) ?_
      repeat (first | refine i_len rfl ?_ | refine i_s rfl ?_ | refine i_lenm rfl rfl rfl ?_ | refine c_seq ?_ | refine c_cut0 ?_ | refine c_ops ?_ | refine i_nil ?_ | refine e_seq ?_ | refine e_block ?_ | refine c_block ?_ | refine c_skip ?_ | refine c_ret ?_ | refine c_exit ?_ | refine e_exit rfl ?_ | refine i_s0 rfl ?_ | refine c_leaf ?_ | refine i_gt rfl ?_ | refine i_gf rfl ?_ | refine i_gd rfl ?_ | refine c_t rfl ?_ | refine c_f rfl ?_ | refine i_conv rfl (by simp only [InR, List.length_map]; omega) ?_ | refine i_add rfl rfl (by simp only [InR, List.length_map]; omega) ?_ | refine i_sub rfl rfl (by simp only [InR, List.length_map]; omega) ?_ | refine i_ixm rfl rfl (by assumption) ?_ | refine i_iai rfl rfl (by omega) (by assumption) rfl ?_ | refine i_iam rfl rfl (by assumption) rfl ?_ | refine i_tk rfl rfl (by omega) ?_ | refine i_stb rfl ?_ | refine i_alloc rfl ?_ | refine i_box rfl rfl ?_ | refine i_nv rfl ?_)
      exact e_lp (k + 1, updL u o.add o.del, acc ++ [updL u o.add o.del]) ⟨hlt, by simp [h2], updL_set h3 hoo.add, by simpa using h4⟩ (by simp only; omega) ⟨⟨rfl, rfl, rfl, rfl, rfl, rfl, trivial⟩, ⟨rfl, by simp; rfl, trivial⟩, rfl⟩
    | false =>
      rw [hi] at hC
      rw [hi, if_neg (by simp), List.append_nil] at h4
      repeat (first | refine i_len rfl ?_ | refine i_s rfl ?_ | refine i_lenm rfl rfl rfl ?_ | refine c_seq ?_ | refine c_cut0 ?_ | refine c_ops ?_ | refine i_nil ?_ | refine e_seq ?_ | refine e_block ?_ | refine c_block ?_ | refine c_skip ?_ | refine c_ret ?_ | refine c_exit ?_ | refine e_exit rfl ?_ | refine i_s0 rfl ?_ | refine c_leaf ?_ | refine i_gt rfl ?_ | refine i_gf rfl ?_ | refine i_gd rfl ?_ | refine c_t rfl ?_ | refine c_f rfl ?_ | refine i_conv rfl (by simp only [InR, List.length_map]; omega) ?_ | refine i_add rfl rfl (by simp only [InR, List.length_map]; omega) ?_ | refine i_sub rfl rfl (by simp only [InR, List.length_map]; omega) ?_ | refine i_ixm rfl rfl (by assumption) ?_ | refine i_iai rfl rfl (by omega) (by assumption) rfl ?_ | refine i_iam rfl rfl (by assumption) rfl ?_ | refine i_tk rfl rfl (by omega) ?_ | refine i_stb rfl ?_ | refine i_alloc rfl ?_ | refine i_box rfl rfl ?_ | refine i_nv rfl ?_ | refine i_f rfl rfl (hC) rfl ?_ | refine i_f rfl rfl (hN) rfl ?_)
      exact e_ret ⟨rfl, _, rfl, by rw [h4]; rfl⟩
  · have hge : k = plan.length := by have : ¬ k < plan.length := by simpa using h
                                     omega
    subst hge
    rw [List.drop_length] at h4
    simp only [runT, List.append_nil] at h4
    repeat (first | refine i_len rfl ?_ | refine i_s rfl ?_ | refine i_lenm rfl rfl rfl ?_ | refine c_seq ?_ | refine c_cut0 ?_ | refine c_ops ?_ | refine i_nil ?_ | refine e_seq ?_ | refine e_block ?_ | refine c_block ?_ | refine c_skip ?_ | refine c_ret ?_ | refine c_exit ?_ | refine e_exit rfl ?_ | refine i_s0 rfl ?_ | refine c_leaf ?_ | refine i_gt rfl ?_ | refine i_gf rfl ?_ | refine i_gd rfl ?_ | refine c_t rfl ?_ | refine c_f rfl ?_ | refine i_conv rfl (by simp only [InR, List.length_map]; omega) ?_ | refine i_add rfl rfl (by simp only [InR, List.length_map]; omega) ?_ | refine i_sub rfl rfl (by simp only [InR, List.length_map]; omega) ?_ | refine i_ixm rfl rfl (by assumption) ?_ | refine i_iai rfl rfl (by omega) (by assumption) rfl ?_ | refine i_iam rfl rfl (by assumption) rfl ?_ | refine i_tk rfl rfl (by omega) ?_ | refine i_stb rfl ?_ | refine i_alloc rfl ?_ | refine i_box rfl rfl ?_ | refine i_nv rfl ?_)
    exact e_ret ⟨rfl, _, rfl, by rw [h4]; rfl⟩
end Hm
end

section
/- Contracts: plans that work; what they cost; the reference. -/
namespace Hm
open Go
set_option maxRecDepth 100000
set_option maxHeartbeats 2000000
set_option linter.unusedSimpArgs false
set_option linter.unusedVariables false
def c_strips_Works : Cmd :=
  (.seq
   (.ops [
   .op (some 3) none (.box 2304196 4 (.t 0)),
   .op (some 6) none (.mov (.c (.bool false)))])
   (.cut
   (.seq
   (.ops [
   .op (some 8) none (.load true 4 (.t 3)),
   .op (some 9) none (.mov (.t 1)),
   .op (some 10) none (.mov (.t 2)),
   .op (some 11) none (.call .f (.c (.fn 28 [])) [.t 8, .t 9, .t 10]),
   .op (some 7) none (.mov (.t 11))])
   (.cut
   (.seq
   (.ops [
   .op (some 12) none (.mov (.t 7)),
   .op (some 13) none (.len false (.t 12)),
   .op (some 14) none (.mov (.t 2)),
   .op (some 15) none (.len false (.t 14)),
   .op (some 16) none (.bin .add false [] (.t 15) (.c (.int .i64 (1)))),
   .op (some 17) none (.bin .eql false [.i] (.t 13) (.t 16)),
   .op (some 18) none (.mov (.t 17)),
   .op (some 19) (some (18, true)) (.mov (.t 7)),
   .op (some 20) (some (18, true)) (.mov (.t 2)),
   .op (some 21) (some (18, true)) (.len false (.t 20)),
   .op (some 22) (some (18, true)) (.iaddr 1 (.t 19) (.t 21)),
   .op (some 23) (some (18, true)) (.load false 1 (.t 22)),
   .op (some 24) (some (18, true)) (.faddr 2 (.t 3)),
   .op (some 25) (some (18, true)) (.load false 1 (.t 24)),
   .op (some 26) (some (18, true)) (.call .f (.c (.fn 29 [])) [.t 23, .t 25]),
   .op (some 27) none (.pick (.t 18) (.t 26) (.c (.bool false))),
   .op (some 6) none (.mov (.t 27))])
   .ret)))))
def r_strips_Works : List RVar := [.tmp 6]
def n_strips_Works : Nat := 28
theorem k_strips_Works : chkFn Go.Proofs.Try.prog 36 n_strips_Works r_strips_Works c_strips_Works = true := by kernel_rfl
theorem f_strips_Works (t : STask) (hv : SV t) (s : List Int) (hs : IsSet t.facts s) (plan : List Int) (hl : plan.length ≤ 1000000) (hp : ∀ x ∈ plan, 0 ≤ x ∧ x < t.ops.length) : Fc Go.Proofs.Try.prog 36 [skV t, .sl .p (s.map i64V), .sl .p (plan.map i64V)] (.bool (worksB t s plan)) := by
  have hR := f_strips_Run t hv s hs plan hl hp
  have hle := run_len_le t plan s
  have heq := run_len_eq t plan s
  have hget := run_get t plan s
  have hgl := set_le hv hv.goal
  unfold worksB
  cases he : endS t s plan with
  | some e =>
    have hes := endS_set hv plan s e hs he
    have hel := set_le hv hes
    have hC := f_strips_Contains e t.goal (by omega) (by omega) hes.ss hv.goal.ss
    rw [he] at hget heq
    have hlen : (runT t s plan).length = plan.length := heq.2 rfl
    generalize runT t s plan = R at *
    have hl2 : (s :: R).length = plan.length + 1 := by simp [hlen]
    generalize s :: R = L at *
    refine Fn.step mixed k_strips_Works ?_
    repeat' (first | refine i_len rfl ?_ | refine i_s rfl ?_ | refine i_lenm rfl rfl rfl ?_ | refine c_seq ?_ | refine c_cut0 ?_ | refine c_ops ?_ | refine i_nil ?_ | refine e_seq ?_ | refine e_block ?_ | refine c_block ?_ | refine c_skip ?_ | refine c_ret ?_ | refine c_exit ?_ | refine e_exit rfl ?_ | refine i_s0 rfl ?_ | refine c_leaf ?_ | refine i_gt rfl ?_ | refine i_gf rfl ?_ | refine i_gd rfl ?_ | refine c_t rfl ?_ | refine c_f rfl ?_ | refine i_conv rfl (by simp only [InR, List.length_map]; omega) ?_ | refine i_add rfl rfl (by simp only [InR, List.length_map]; omega) ?_ | refine i_sub rfl rfl (by simp only [InR, List.length_map]; omega) ?_ | refine i_ixm rfl rfl (by assumption) ?_ | refine i_iai rfl rfl (by omega) (by assumption) rfl ?_ | refine i_iam rfl rfl (by assumption) rfl ?_ | refine i_tk rfl rfl (by omega) ?_ | refine i_stb rfl ?_ | refine i_alloc rfl ?_ | refine i_box rfl rfl ?_ | refine i_nv rfl ?_ | refine c_node ?_ ?_ | refine i_g rfl (fun h => ?_) (fun h => ?_) | refine c_cond rfl (fun h => ?_) (fun h => ?_) | refine i_f rfl rfl (hR) rfl ?_ | refine i_f rfl rfl (hC) rfl ?_)
    all_goals first
      | exact e_ret ⟨rfl, _, rfl, rfl⟩
      | (exfalso; clear hR hC hs hv hes heq; simp at *; omega)
  | none =>
    rw [he] at heq
    have hlen : ¬ (runT t s plan).length = plan.length := fun h => by have := heq.1 h; cases this
    generalize runT t s plan = R at *
    have hl2 : ¬ (s :: R).length = plan.length + 1 := by simp; omega
    generalize s :: R = L at *
    refine Fn.step mixed k_strips_Works ?_
    repeat' (first | refine i_len rfl ?_ | refine i_s rfl ?_ | refine i_lenm rfl rfl rfl ?_ | refine c_seq ?_ | refine c_cut0 ?_ | refine c_ops ?_ | refine i_nil ?_ | refine e_seq ?_ | refine e_block ?_ | refine c_block ?_ | refine c_skip ?_ | refine c_ret ?_ | refine c_exit ?_ | refine e_exit rfl ?_ | refine i_s0 rfl ?_ | refine c_leaf ?_ | refine i_gt rfl ?_ | refine i_gf rfl ?_ | refine i_gd rfl ?_ | refine c_t rfl ?_ | refine c_f rfl ?_ | refine i_conv rfl (by simp only [InR, List.length_map]; omega) ?_ | refine i_add rfl rfl (by simp only [InR, List.length_map]; omega) ?_ | refine i_sub rfl rfl (by simp only [InR, List.length_map]; omega) ?_ | refine i_ixm rfl rfl (by assumption) ?_ | refine i_iai rfl rfl (by omega) (by assumption) rfl ?_ | refine i_iam rfl rfl (by assumption) rfl ?_ | refine i_tk rfl rfl (by omega) ?_ | refine i_stb rfl ?_ | refine i_alloc rfl ?_ | refine i_box rfl rfl ?_ | refine i_nv rfl ?_ | refine c_node ?_ ?_ | refine i_g rfl (fun h => ?_) (fun h => ?_) | refine c_cond rfl (fun h => ?_) (fun h => ?_) | refine i_f rfl rfl (hR) rfl ?_)
    all_goals first
      | exact e_ret ⟨rfl, _, rfl, rfl⟩
      | (exfalso; clear hR hs hv heq; simp at *; omega)
def c_strips_Solves : Cmd :=
  (.seq
   (.ops [
   .op (some 2) none (.box 1280132 4 (.t 0)),
   .op (some 4) none (.mov (.c (.bool false))),
   .op (some 5) none (.alloc 1280322 (.agg [.int .i64 (0), .int .i64 (0)]))])
   (.cut
   (.seq
   (.seq
   (.ops [
   .op (some 7) none (.load true 4 (.t 2)),
   .op (some 8) none (.mov (.t 1)),
   .op (some 9) none (.call .f (.c (.fn 27 [])) [.t 7, .t 8]),
   .op (some 6) none (.alloc 1280386 (.agg [.int .i64 (0), .int .i64 (0)])),
   .op none none (.store 2 (.t 6) (.t 9))])
   (.cut
   (.seq
   (.ops [
   .op (some 10) none (.load true 2 (.t 6)),
   .op (some 11) none (.build [.int .i64 (0), .int .i64 (0)] []),
   .op (some 12) none (.bin .neq true [.i, .i] (.t 10) (.t 11))])
   (.cut
   (.cond (.t 12)
   (.seq
   (.ops [
   .op (some 13) none (.load true 2 (.t 6)),
   .op (some 4) none (.mov (.c (.bool false))),
   .op none none (.store 2 (.t 5) (.t 13))])
   .ret)
   .skip)))))
   (.cut
   (.seq
   (.ops [
   .op (some 14) none (.load true 4 (.t 2)),
   .op (some 15) none (.faddr 1 (.t 2)),
   .op (some 16) none (.load false 1 (.t 15)),
   .op (some 17) none (.mov (.t 1)),
   .op (some 18) none (.call .f (.c (.fn 36 [])) [.t 14, .t 16, .t 17]),
   .op (some 19) none (.build [.int .i64 (0), .int .i64 (0)] []),
   .op (some 4) none (.mov (.t 18)),
   .op none none (.store 2 (.t 5) (.t 19))])
   .ret)))))
def r_strips_Solves : List RVar := [.tmp 4, .cell true 2 5]
def n_strips_Solves : Nat := 20
theorem k_strips_Solves : chkFn Go.Proofs.Try.prog 20 n_strips_Solves r_strips_Solves c_strips_Solves = true := by kernel_rfl
theorem f_strips_Solves_bad (t : STask) (ho : SkOk t) (plan : List Int) (hl : plan.length ≤ 140737488355328) (hb : plFault t plan ≠ okF) : Fc Go.Proofs.Try.prog 20 [skV t, .sl .p (plan.map i64V)] (.tup [.bool false, ftV (plFault t plan)]) := by
  refine Fn.step mixed k_strips_Solves ?_
  repeat' (first | refine i_len rfl ?_ | refine i_s rfl ?_ | refine i_lenm rfl rfl rfl ?_ | refine c_seq ?_ | refine c_cut0 ?_ | refine c_ops ?_ | refine i_nil ?_ | refine e_seq ?_ | refine e_block ?_ | refine c_block ?_ | refine c_skip ?_ | refine c_ret ?_ | refine c_exit ?_ | refine e_exit rfl ?_ | refine i_s0 rfl ?_ | refine c_leaf ?_ | refine i_gt rfl ?_ | refine i_gf rfl ?_ | refine i_gd rfl ?_ | refine c_t rfl ?_ | refine c_f rfl ?_ | refine i_conv rfl (by simp only [InR, List.length_map]; omega) ?_ | refine i_add rfl rfl (by simp only [InR, List.length_map]; omega) ?_ | refine i_sub rfl rfl (by simp only [InR, List.length_map]; omega) ?_ | refine i_ixm rfl rfl (by assumption) ?_ | refine i_iai rfl rfl (by omega) (by assumption) rfl ?_ | refine i_iam rfl rfl (by assumption) rfl ?_ | refine i_tk rfl rfl (by omega) ?_ | refine i_stb rfl ?_ | refine i_alloc rfl ?_ | refine i_box rfl rfl ?_ | refine i_nv rfl ?_ | refine c_node ?_ ?_ | refine i_g rfl (fun h => ?_) (fun h => ?_) | refine c_cond rfl (fun h => ?_) (fun h => ?_) | refine i_f rfl rfl (f_strips_PlanFault t ho plan hl) rfl ?_)
  · exact e_ret ⟨rfl, _, rfl, rfl⟩
  · exact absurd (eq_ok h) hb
theorem f_strips_Solves_ok (t : STask) (ho : SkOk t) (plan : List Int) (hb : plFault t plan = okF) : Fc Go.Proofs.Try.prog 20 [skV t, .sl .p (plan.map i64V)] (.tup [.bool (worksB t t.init plan), ftV okF]) := by
  obtain ⟨hv, h60, hr, _⟩ := plFault_ok hb
  have hF := f_strips_PlanFault t ho plan (by omega)
  rw [hb] at hF
  have hW := f_strips_Works t hv t.init hv.init plan (by omega) hr
  refine Fn.step mixed k_strips_Solves ?_
  repeat' (first | refine i_len rfl ?_ | refine i_s rfl ?_ | refine i_lenm rfl rfl rfl ?_ | refine c_seq ?_ | refine c_cut0 ?_ | refine c_ops ?_ | refine i_nil ?_ | refine e_seq ?_ | refine e_block ?_ | refine c_block ?_ | refine c_skip ?_ | refine c_ret ?_ | refine c_exit ?_ | refine e_exit rfl ?_ | refine i_s0 rfl ?_ | refine c_leaf ?_ | refine i_gt rfl ?_ | refine i_gf rfl ?_ | refine i_gd rfl ?_ | refine c_t rfl ?_ | refine c_f rfl ?_ | refine i_conv rfl (by simp only [InR, List.length_map]; omega) ?_ | refine i_add rfl rfl (by simp only [InR, List.length_map]; omega) ?_ | refine i_sub rfl rfl (by simp only [InR, List.length_map]; omega) ?_ | refine i_ixm rfl rfl (by assumption) ?_ | refine i_iai rfl rfl (by omega) (by assumption) rfl ?_ | refine i_iam rfl rfl (by assumption) rfl ?_ | refine i_tk rfl rfl (by omega) ?_ | refine i_stb rfl ?_ | refine i_alloc rfl ?_ | refine i_box rfl rfl ?_ | refine i_nv rfl ?_ | refine c_node ?_ ?_ | refine i_g rfl (fun h => ?_) (fun h => ?_) | refine c_cond rfl (fun h => ?_) (fun h => ?_) | refine i_f rfl rfl (hF) rfl ?_ | refine i_f rfl rfl (hW) rfl ?_)
  exact e_ret ⟨rfl, _, rfl, rfl⟩
def c_strips_Cost : Cmd :=
  (.seq
   (.ops [
   .op (some 2) none (.box 1408132 4 (.t 0)),
   .op (some 4) none (.mov (.c (.int .i64 (0)))),
   .op (some 5) none (.alloc 1408322 (.agg [.int .i64 (0), .int .i64 (0)]))])
   (.cut
   (.seq
   (.seq
   (.ops [
   .op (some 10) none (.load true 4 (.t 2)),
   .op (some 11) none (.mov (.t 1)),
   .op (some 12) none (.call .f (.c (.fn 27 [])) [.t 10, .t 11]),
   .op (some 6) none (.alloc 1408386 (.agg [.int .i64 (0), .int .i64 (0)])),
   .op none none (.store 2 (.t 6) (.t 12))])
   (.cut
   (.seq
   (.ops [
   .op (some 13) none (.load true 2 (.t 6)),
   .op (some 14) none (.build [.int .i64 (0), .int .i64 (0)] []),
   .op (some 15) none (.bin .neq true [.i, .i] (.t 13) (.t 14))])
   (.cut
   (.cond (.t 15)
   (.seq
   (.ops [
   .op (some 16) none (.load true 2 (.t 6)),
   .op (some 4) none (.mov (.c (.int .i64 (0)))),
   .op none none (.store 2 (.t 5) (.t 16))])
   .ret)
   .skip)))))
   (.cut
   (.seq
   (.ops [
   .op (some 7) none (.mov (.c (.int .i64 (0))))])
   (.cut
   (.seq
   (.seq
   (.ops [
   .op (some 17) none (.mov (.t 1)),
   .op (some 18) none (.len false (.t 17)),
   .op (some 19) none (.mov (.c (.int .i64 (0))))])
   (.cut
   (.block 0
   (.loop
   (.seq
   (.ops [
   .op (some 20) none (.bin .lss false [] (.t 19) (.t 18))])
   (.cut
   (.seq
   (.cond (.t 20)
   .skip
   (.exit 0))
   (.cut
   (.seq
   (.block 1
   (.seq
   (.ops [
   .op (some 21) none (.iaddr 1 (.t 17) (.t 19)),
   .op (some 22) none (.load false 1 (.t 21)),
   .op (some 9) none (.mov (.t 22))])
   (.cut
   (.ops [
   .op (some 23) none (.mov (.t 7)),
   .op (some 24) none (.faddr 3 (.t 2)),
   .op (some 25) none (.load false 1 (.t 24)),
   .op (some 26) none (.mov (.t 9)),
   .op (some 27) none (.iaddr 4 (.t 25) (.t 26)),
   .op (some 28) none (.faddr 3 (.t 27)),
   .op (some 29) none (.load false 1 (.t 28)),
   .op (some 30) none (.bin .add false [] (.t 23) (.t 29)),
   .op (some 7) none (.mov (.t 30))]))))
   (.cut
   (.ops [
   .op (some 31) none (.bin .add false [] (.t 19) (.c (.int .i64 (1)))),
   .op (some 19) none (.mov (.t 31))])))))))))))
   (.cut
   (.seq
   (.ops [
   .op (some 32) none (.mov (.t 7)),
   .op (some 33) none (.build [.int .i64 (0), .int .i64 (0)] []),
   .op (some 4) none (.mov (.t 32)),
   .op none none (.store 2 (.t 5) (.t 33))])
   .ret)))))))))
def r_strips_Cost : List RVar := [.tmp 4, .cell true 2 5]
def n_strips_Cost : Nat := 34
theorem k_strips_Cost : chkFn Go.Proofs.Try.prog 22 n_strips_Cost r_strips_Cost c_strips_Cost = true := by kernel_rfl
theorem f_strips_Cost_bad (t : STask) (ho : SkOk t) (plan : List Int) (hl : plan.length ≤ 140737488355328) (hb : plFault t plan ≠ okF) : Fc Go.Proofs.Try.prog 22 [skV t, .sl .p (plan.map i64V)] (.tup [.int .i64 0, ftV (plFault t plan)]) := by
  refine Fn.step mixed k_strips_Cost ?_
  repeat' (first | refine i_len rfl ?_ | refine i_s rfl ?_ | refine i_lenm rfl rfl rfl ?_ | refine c_seq ?_ | refine c_cut0 ?_ | refine c_ops ?_ | refine i_nil ?_ | refine e_seq ?_ | refine e_block ?_ | refine c_block ?_ | refine c_skip ?_ | refine c_ret ?_ | refine c_exit ?_ | refine e_exit rfl ?_ | refine i_s0 rfl ?_ | refine c_leaf ?_ | refine i_gt rfl ?_ | refine i_gf rfl ?_ | refine i_gd rfl ?_ | refine c_t rfl ?_ | refine c_f rfl ?_ | refine i_conv rfl (by simp only [InR, List.length_map]; omega) ?_ | refine i_add rfl rfl (by simp only [InR, List.length_map]; omega) ?_ | refine i_sub rfl rfl (by simp only [InR, List.length_map]; omega) ?_ | refine i_ixm rfl rfl (by assumption) ?_ | refine i_iai rfl rfl (by omega) (by assumption) rfl ?_ | refine i_iam rfl rfl (by assumption) rfl ?_ | refine i_tk rfl rfl (by omega) ?_ | refine i_stb rfl ?_ | refine i_alloc rfl ?_ | refine i_box rfl rfl ?_ | refine i_nv rfl ?_ | refine c_node ?_ ?_ | refine i_g rfl (fun h => ?_) (fun h => ?_) | refine c_cond rfl (fun h => ?_) (fun h => ?_) | refine i_f rfl rfl (f_strips_PlanFault t ho plan hl) rfl ?_)
  · exact e_ret ⟨rfl, _, rfl, rfl⟩
  · exact absurd (eq_ok h) hb
theorem f_strips_Cost_ok (t : STask) (ho : SkOk t) (plan : List Int) (hb : plFault t plan = okF) : Fc Go.Proofs.Try.prog 22 [skV t, .sl .p (plan.map i64V)] (.tup [.int .i64 (costS t plan), ftV okF]) := by
  obtain ⟨hv, h60, hr, _⟩ := plFault_ok hb
  have hF := f_strips_PlanFault t ho plan (by omega)
  rw [hb] at hF
  refine Fn.step mixed k_strips_Cost ?_
  repeat' (first | refine i_len rfl ?_ | refine i_s rfl ?_ | refine i_lenm rfl rfl rfl ?_ | refine c_seq ?_ | refine c_cut0 ?_ | refine c_ops ?_ | refine i_nil ?_ | refine e_seq ?_ | refine e_block ?_ | refine c_block ?_ | refine c_skip ?_ | refine c_ret ?_ | refine c_exit ?_ | refine e_exit rfl ?_ | refine i_s0 rfl ?_ | refine c_leaf ?_ | refine i_gt rfl ?_ | refine i_gf rfl ?_ | refine i_gd rfl ?_ | refine c_t rfl ?_ | refine c_f rfl ?_ | refine i_conv rfl (by simp only [InR, List.length_map]; omega) ?_ | refine i_add rfl rfl (by simp only [InR, List.length_map]; omega) ?_ | refine i_sub rfl rfl (by simp only [InR, List.length_map]; omega) ?_ | refine i_ixm rfl rfl (by assumption) ?_ | refine i_iai rfl rfl (by omega) (by assumption) rfl ?_ | refine i_iam rfl rfl (by assumption) rfl ?_ | refine i_tk rfl rfl (by omega) ?_ | refine i_stb rfl ?_ | refine i_alloc rfl ?_ | refine i_box rfl rfl ?_ | refine i_nv rfl ?_ | refine c_node ?_ ?_ | refine i_g rfl (fun h => ?_) (fun h => ?_) | refine c_cond rfl (fun h => ?_) (fun h => ?_) | refine i_f rfl rfl (hF) rfl ?_)
  refine c_for plan.length (fun k => [(2, .bptr 1408132 0), (5, .bptr 1408322 0), (7, .int .i64 (costS t (plan.take k))), (17, .sl .p (plan.map i64V)), (18, .int .i64 plan.length), (19, .int .i64 k)]) (fun _ => [(1408132, .box (skV t)), (1408322, .box (ftV okF))]) (fun _ => True) trivial ⟨by repeat (first | exact trivial | refine ⟨rfl, ?_⟩), by repeat (first | exact trivial | refine ⟨rfl, ?_⟩), rfl⟩ fun k hk _ => ?_
  clear hF
  repeat (first | refine i_len rfl ?_ | refine i_s rfl ?_ | refine i_lenm rfl rfl rfl ?_ | refine c_seq ?_ | refine c_cut0 ?_ | refine c_ops ?_ | refine i_nil ?_ | refine e_seq ?_ | refine e_block ?_ | refine c_block ?_ | refine c_skip ?_ | refine c_ret ?_ | refine c_exit ?_ | refine e_exit rfl ?_ | refine i_s0 rfl ?_ | refine c_leaf ?_ | refine i_gt rfl ?_ | refine i_gf rfl ?_ | refine i_gd rfl ?_ | refine c_t rfl ?_ | refine c_f rfl ?_ | refine i_conv rfl (by simp only [InR, List.length_map]; omega) ?_ | refine i_add rfl rfl (by simp only [InR, List.length_map]; omega) ?_ | refine i_sub rfl rfl (by simp only [InR, List.length_map]; omega) ?_ | refine i_ixm rfl rfl (by assumption) ?_ | refine i_iai rfl rfl (by omega) (by assumption) rfl ?_ | refine i_iam rfl rfl (by assumption) rfl ?_ | refine i_tk rfl rfl (by omega) ?_ | refine i_stb rfl ?_ | refine i_alloc rfl ?_ | refine i_box rfl rfl ?_ | refine i_nv rfl ?_)
  refine c_cond rfl (fun h => ?_) (fun h => ?_)
  · have hlt : k < plan.length := by simpa using h
    obtain ⟨x, hx⟩ := get_some hlt
    obtain ⟨x0, x1⟩ := hr x (mem_get hx)
    obtain ⟨o, hc⟩ := get_some (l := t.ops) (k := x.toNat) (by omega)
    have hcr := costS_range hv (plan.take k)
    have hoo := hv.op o (mem_get hc)
    have c0 := hoo.c0
    have c1 := hoo.c1
    have htl : (plan.take k).length ≤ 60 := by simp; omega
    have e : costS t (plan.take (k + 1)) = costS t (plan.take k) + o.cost := by rw [take_succ_get hx, costS_snoc, show costAtS t x = o.cost from by simp [costAtS, hc]]
    clear h hr hv hoo
    repeat (first | refine i_len rfl ?_ | refine i_s rfl ?_ | refine i_lenm rfl rfl rfl ?_ | refine c_seq ?_ | refine c_cut0 ?_ | refine c_ops ?_ | refine i_nil ?_ | refine e_seq ?_ | refine e_block ?_ | refine c_block ?_ | refine c_skip ?_ | refine c_ret ?_ | refine c_exit ?_ | refine e_exit rfl ?_ | refine i_s0 rfl ?_ | refine c_leaf ?_ | refine i_gt rfl ?_ | refine i_gf rfl ?_ | refine i_gd rfl ?_ | refine c_t rfl ?_ | refine c_f rfl ?_ | refine i_conv rfl (by simp only [InR, List.length_map]; omega) ?_ | refine i_add rfl rfl (by simp only [InR, List.length_map]; omega) ?_ | refine i_sub rfl rfl (by simp only [InR, List.length_map]; omega) ?_ | refine i_ixm rfl rfl (by assumption) ?_ | refine i_iai rfl rfl (by omega) (by assumption) rfl ?_ | refine i_iam rfl rfl (by assumption) rfl ?_ | refine i_tk rfl rfl (by omega) ?_ | refine i_stb rfl ?_ | refine i_alloc rfl ?_ | refine i_box rfl rfl ?_ | refine i_nv rfl ?_)
    refine e_for hlt trivial ⟨⟨rfl, rfl, ?_, rfl, rfl, rfl, trivial⟩, ⟨rfl, rfl, trivial⟩, rfl⟩
    rw [e]; rfl
  · have hge : k = plan.length := by have : ¬ k < plan.length := by simpa using h
                                     omega
    subst hge
    rw [List.take_length]
    repeat (first | refine i_len rfl ?_ | refine i_s rfl ?_ | refine i_lenm rfl rfl rfl ?_ | refine c_seq ?_ | refine c_cut0 ?_ | refine c_ops ?_ | refine i_nil ?_ | refine e_seq ?_ | refine e_block ?_ | refine c_block ?_ | refine c_skip ?_ | refine c_ret ?_ | refine c_exit ?_ | refine e_exit rfl ?_ | refine i_s0 rfl ?_ | refine c_leaf ?_ | refine i_gt rfl ?_ | refine i_gf rfl ?_ | refine i_gd rfl ?_ | refine c_t rfl ?_ | refine c_f rfl ?_ | refine i_conv rfl (by simp only [InR, List.length_map]; omega) ?_ | refine i_add rfl rfl (by simp only [InR, List.length_map]; omega) ?_ | refine i_sub rfl rfl (by simp only [InR, List.length_map]; omega) ?_ | refine i_ixm rfl rfl (by assumption) ?_ | refine i_iai rfl rfl (by omega) (by assumption) rfl ?_ | refine i_iam rfl rfl (by assumption) rfl ?_ | refine i_tk rfl rfl (by omega) ?_ | refine i_stb rfl ?_ | refine i_alloc rfl ?_ | refine i_box rfl rfl ?_ | refine i_nv rfl ?_)
    exact e_ret ⟨rfl, _, rfl, rfl⟩
def playF (t : STask) (s plan : List Int) : Flt := if stFault t s = okF then (if stepsF t.ops.length plan = okF then (if (runT t s plan).length = plan.length then okF else ⟨11, (runT t s plan).length⟩) else stepsF t.ops.length plan) else stFault t s
def playL (t : STask) (s plan : List Int) : List (List Int) := if playF t s plan = okF then s :: runT t s plan else []
def c_strips_Play : Cmd :=
  (.seq
   (.ops [
   .op (some 3) none (.box 1536196 4 (.t 0)),
   .op (some 6) none (.mov (.c (.sl .nil []))),
   .op (some 7) none (.alloc 1536450 (.agg [.int .i64 (0), .int .i64 (0)]))])
   (.cut
   (.seq
   (.ops [
   .op (some 10) none (.load true 4 (.t 3)),
   .op (some 11) none (.mov (.t 1)),
   .op (some 12) none (.call .f (.c (.fn 40 [])) [.t 10, .t 11]),
   .op (some 8) none (.alloc 1536514 (.agg [.int .i64 (0), .int .i64 (0)])),
   .op none none (.store 2 (.t 8) (.t 12))])
   (.cut
   (.seq
   (.seq
   (.ops [
   .op (some 13) none (.load true 2 (.t 8)),
   .op (some 14) none (.build [.int .i64 (0), .int .i64 (0)] []),
   .op (some 15) none (.bin .eql true [.i, .i] (.t 13) (.t 14))])
   (.cut
   (.cond (.t 15)
   (.ops [
   .op (some 16) none (.faddr 3 (.t 3)),
   .op (some 17) none (.load false 1 (.t 16)),
   .op (some 18) none (.len false (.t 17)),
   .op (some 19) none (.mov (.t 2)),
   .op (some 20) none (.call .f (.c (.fn 41 [])) [.t 18, .t 19]),
   .op none none (.store 2 (.t 8) (.t 20))])
   .skip)))
   (.cut
   (.seq
   (.seq
   (.ops [
   .op (some 21) none (.load true 2 (.t 8)),
   .op (some 22) none (.build [.int .i64 (0), .int .i64 (0)] []),
   .op (some 23) none (.bin .neq true [.i, .i] (.t 21) (.t 22))])
   (.cut
   (.cond (.t 23)
   (.seq
   (.ops [
   .op (some 24) none (.load true 2 (.t 8)),
   .op (some 6) none (.mov (.c (.sl .nil []))),
   .op none none (.store 2 (.t 7) (.t 24))])
   .ret)
   .skip)))
   (.cut
   (.seq
   (.ops [
   .op (some 25) none (.load true 4 (.t 3)),
   .op (some 26) none (.mov (.t 1)),
   .op (some 27) none (.mov (.t 2)),
   .op (some 28) none (.call .f (.c (.fn 28 [])) [.t 25, .t 26, .t 27]),
   .op (some 9) none (.mov (.t 28))])
   (.cut
   (.seq
   (.seq
   (.ops [
   .op (some 29) none (.mov (.t 9)),
   .op (some 30) none (.len false (.t 29)),
   .op (some 31) none (.mov (.t 2)),
   .op (some 32) none (.len false (.t 31)),
   .op (some 33) none (.bin .leq false [] (.t 30) (.t 32))])
   (.cut
   (.cond (.t 33)
   (.seq
   (.ops [
   .op (some 34) none (.mov (.t 9)),
   .op (some 35) none (.len false (.t 34)),
   .op (some 36) none (.bin .sub false [] (.t 35) (.c (.int .i64 (1)))),
   .op (some 37) none (.build [.int .i64 (0), .int .i64 (0)] [(0, 1, .c (.int .i64 (11))), (1, 1, .t 36)]),
   .op (some 6) none (.mov (.c (.sl .nil []))),
   .op none none (.store 2 (.t 7) (.t 37))])
   .ret)
   .skip)))
   (.cut
   (.seq
   (.ops [
   .op (some 38) none (.mov (.t 9)),
   .op (some 39) none (.build [.int .i64 (0), .int .i64 (0)] []),
   .op (some 6) none (.mov (.t 38)),
   .op none none (.store 2 (.t 7) (.t 39))])
   .ret)))))))))))))
def r_strips_Play : List RVar := [.tmp 6, .cell true 2 7]
def n_strips_Play : Nat := 40
theorem k_strips_Play : chkFn Go.Proofs.Try.prog 24 n_strips_Play r_strips_Play c_strips_Play = true := by kernel_rfl
theorem f_strips_Play (t : STask) (ho : SkOk t) (s : List Int) (hs : s.length ≤ 140737488355328) (plan : List Int) (hl : plan.length ≤ 140737488355328) : Fc Go.Proofs.Try.prog 24 [skV t, .sl .p (s.map i64V), .sl .p (plan.map i64V)] (.tup [.sl .p ((playL t s plan).map ssV), ftV (playF t s plan)]) := by
  have hF := f_strips_StateFault t ho s hs
  have hS := f_strips_Steps t.ops.length plan hl
  have l5 := ho.o
  by_cases h1 : stFault t s = okF
  · rw [h1] at hF
    obtain ⟨hv, hss, _⟩ := stFault_ok h1
    by_cases h2 : stepsF t.ops.length plan = okF
    · rw [h2] at hS
      obtain ⟨h60, hr⟩ := stepsF_ok h2
      have hR := f_strips_Run t hv s hss plan (by omega) hr
      have hle := run_len_le t plan s
      by_cases h3 : (runT t s plan).length = plan.length
      · have e : playF t s plan = okF := by unfold playF; rw [if_pos h1, if_pos h2, if_pos h3]
        unfold playL
        rw [e, if_pos rfl]
        have hl2 : (s :: runT t s plan).length = plan.length + 1 := by simp [h3]
        generalize s :: runT t s plan = L at *
        refine Fn.step mixed k_strips_Play ?_
        repeat' (first | refine i_len rfl ?_ | refine i_s rfl ?_ | refine i_lenm rfl rfl rfl ?_ | refine c_seq ?_ | refine c_cut0 ?_ | refine c_ops ?_ | refine i_nil ?_ | refine e_seq ?_ | refine e_block ?_ | refine c_block ?_ | refine c_skip ?_ | refine c_ret ?_ | refine c_exit ?_ | refine e_exit rfl ?_ | refine i_s0 rfl ?_ | refine c_leaf ?_ | refine i_gt rfl ?_ | refine i_gf rfl ?_ | refine i_gd rfl ?_ | refine c_t rfl ?_ | refine c_f rfl ?_ | refine i_conv rfl (by simp only [InR, List.length_map]; omega) ?_ | refine i_add rfl rfl (by simp only [InR, List.length_map]; omega) ?_ | refine i_sub rfl rfl (by simp only [InR, List.length_map]; omega) ?_ | refine i_ixm rfl rfl (by assumption) ?_ | refine i_iai rfl rfl (by omega) (by assumption) rfl ?_ | refine i_iam rfl rfl (by assumption) rfl ?_ | refine i_tk rfl rfl (by omega) ?_ | refine i_stb rfl ?_ | refine i_alloc rfl ?_ | refine i_box rfl rfl ?_ | refine i_nv rfl ?_ | refine c_node ?_ ?_ | refine i_g rfl (fun h => ?_) (fun h => ?_) | refine c_cond rfl (fun h => ?_) (fun h => ?_) | refine i_f rfl rfl (hF) rfl ?_ | refine i_f rfl rfl (hS) rfl ?_ | refine i_f rfl rfl (hR) rfl ?_)
        all_goals first
          | exact e_ret ⟨rfl, _, rfl, rfl⟩
          | (exfalso; clear hF hS hR ho hv hss; simp at *; omega)
      · have e : playF t s plan = ⟨11, (runT t s plan).length⟩ := by unfold playF; rw [if_pos h1, if_pos h2, if_neg h3]
        unfold playL
        rw [e, if_neg (by simp [okF])]
        have hl2 : (s :: runT t s plan).length = (runT t s plan).length + 1 := by simp
        generalize hR2 : (runT t s plan).length = rl at *
        generalize s :: runT t s plan = L at *
        refine Fn.step mixed k_strips_Play ?_
        repeat' (first | refine i_len rfl ?_ | refine i_s rfl ?_ | refine i_lenm rfl rfl rfl ?_ | refine c_seq ?_ | refine c_cut0 ?_ | refine c_ops ?_ | refine i_nil ?_ | refine e_seq ?_ | refine e_block ?_ | refine c_block ?_ | refine c_skip ?_ | refine c_ret ?_ | refine c_exit ?_ | refine e_exit rfl ?_ | refine i_s0 rfl ?_ | refine c_leaf ?_ | refine i_gt rfl ?_ | refine i_gf rfl ?_ | refine i_gd rfl ?_ | refine c_t rfl ?_ | refine c_f rfl ?_ | refine i_conv rfl (by simp only [InR, List.length_map]; omega) ?_ | refine i_add rfl rfl (by simp only [InR, List.length_map]; omega) ?_ | refine i_sub rfl rfl (by simp only [InR, List.length_map]; omega) ?_ | refine i_ixm rfl rfl (by assumption) ?_ | refine i_iai rfl rfl (by omega) (by assumption) rfl ?_ | refine i_iam rfl rfl (by assumption) rfl ?_ | refine i_tk rfl rfl (by omega) ?_ | refine i_stb rfl ?_ | refine i_alloc rfl ?_ | refine i_box rfl rfl ?_ | refine i_nv rfl ?_ | refine c_node ?_ ?_ | refine i_g rfl (fun h => ?_) (fun h => ?_) | refine c_cond rfl (fun h => ?_) (fun h => ?_) | refine i_f rfl rfl (hF) rfl ?_ | refine i_f rfl rfl (hS) rfl ?_ | refine i_f rfl rfl (hR) rfl ?_)
        all_goals first
          | (refine e_ret ⟨rfl, _, rfl, ?_⟩
             show _ = V.tup [.sl .p [], .agg [.int .i64 11, .int .i64 ((L.length : Int) - 1)]]
             rw [show ((L.length : Int) - 1) = rl from by omega]
             rfl)
          | (exfalso; clear hF hS hR ho hv hss; simp at *; omega)
    · have e : playF t s plan = stepsF t.ops.length plan := by unfold playF; rw [if_pos h1, if_neg h2]
      unfold playL
      rw [e, if_neg h2]
      refine Fn.step mixed k_strips_Play ?_
      repeat' (first | refine i_len rfl ?_ | refine i_s rfl ?_ | refine i_lenm rfl rfl rfl ?_ | refine c_seq ?_ | refine c_cut0 ?_ | refine c_ops ?_ | refine i_nil ?_ | refine e_seq ?_ | refine e_block ?_ | refine c_block ?_ | refine c_skip ?_ | refine c_ret ?_ | refine c_exit ?_ | refine e_exit rfl ?_ | refine i_s0 rfl ?_ | refine c_leaf ?_ | refine i_gt rfl ?_ | refine i_gf rfl ?_ | refine i_gd rfl ?_ | refine c_t rfl ?_ | refine c_f rfl ?_ | refine i_conv rfl (by simp only [InR, List.length_map]; omega) ?_ | refine i_add rfl rfl (by simp only [InR, List.length_map]; omega) ?_ | refine i_sub rfl rfl (by simp only [InR, List.length_map]; omega) ?_ | refine i_ixm rfl rfl (by assumption) ?_ | refine i_iai rfl rfl (by omega) (by assumption) rfl ?_ | refine i_iam rfl rfl (by assumption) rfl ?_ | refine i_tk rfl rfl (by omega) ?_ | refine i_stb rfl ?_ | refine i_alloc rfl ?_ | refine i_box rfl rfl ?_ | refine i_nv rfl ?_ | refine c_node ?_ ?_ | refine i_g rfl (fun h => ?_) (fun h => ?_) | refine c_cond rfl (fun h => ?_) (fun h => ?_) | refine i_f rfl rfl (hF) rfl ?_ | refine i_f rfl rfl (hS) rfl ?_)
      · exact e_ret ⟨rfl, _, rfl, rfl⟩
      all_goals exact absurd (eq_ok (by assumption)) h2
  · have e : playF t s plan = stFault t s := by unfold playF; rw [if_neg h1]
    unfold playL
    rw [e, if_neg h1]
    refine Fn.step mixed k_strips_Play ?_
    repeat' (first | refine i_len rfl ?_ | refine i_s rfl ?_ | refine i_lenm rfl rfl rfl ?_ | refine c_seq ?_ | refine c_cut0 ?_ | refine c_ops ?_ | refine i_nil ?_ | refine e_seq ?_ | refine e_block ?_ | refine c_block ?_ | refine c_skip ?_ | refine c_ret ?_ | refine c_exit ?_ | refine e_exit rfl ?_ | refine i_s0 rfl ?_ | refine c_leaf ?_ | refine i_gt rfl ?_ | refine i_gf rfl ?_ | refine i_gd rfl ?_ | refine c_t rfl ?_ | refine c_f rfl ?_ | refine i_conv rfl (by simp only [InR, List.length_map]; omega) ?_ | refine i_add rfl rfl (by simp only [InR, List.length_map]; omega) ?_ | refine i_sub rfl rfl (by simp only [InR, List.length_map]; omega) ?_ | refine i_ixm rfl rfl (by assumption) ?_ | refine i_iai rfl rfl (by omega) (by assumption) rfl ?_ | refine i_iam rfl rfl (by assumption) rfl ?_ | refine i_tk rfl rfl (by omega) ?_ | refine i_stb rfl ?_ | refine i_alloc rfl ?_ | refine i_box rfl rfl ?_ | refine i_nv rfl ?_ | refine c_node ?_ ?_ | refine i_g rfl (fun h => ?_) (fun h => ?_) | refine c_cond rfl (fun h => ?_) (fun h => ?_) | refine i_f rfl rfl (hF) rfl ?_ | refine i_f rfl rfl (hS) rfl ?_)
    all_goals first
      | exact e_ret ⟨rfl, _, rfl, rfl⟩
      | exact absurd (eq_ok' (by assumption)) h1
      | exact absurd (eq_ok (by assumption)) h1
end Hm
end

section
/- Contracts: the reference for steps and plans; the closed example. -/
namespace Hm
open Go
set_option maxRecDepth 100000
set_option maxHeartbeats 2000000
set_option linter.unusedSimpArgs false
set_option linter.unusedVariables false
theorem f_Ints_same (xs : List Int) (hl : xs.length ≤ 140737488355328) : Fc Go.Proofs.Try.prog 14 [.sl .p (xs.map i64V), .sl .p (xs.map i64V)] (.bool true) := by
  have := f_R1_Ints xs xs hl
  simpa using this
def updAt (s add del : List Int) (i : Nat) : Bool := decide ((i : Int) ∈ add) || (decide ((i : Int) ∈ s) && !decide ((i : Int) ∈ del))
theorem updL_eq {n : Nat} {s add del : List Int} (hs : IsSet n s) (ha : IsSet n add) : updL s add del = selK (updAt s add del) n :=
  updL_sel hs ha _ fun i _ => by simp [updAt]
theorem updL_eqF {t : STask} (hv : SV t) {s add del : List Int} (hs : IsSet t.facts s) (ha : IsSet t.facts add) : updL s add del = selK (updAt s add del) t.facts.toNat := by
  refine updL_eq ?_ ?_ <;> rw [facts_nat hv] <;> assumption
theorem updL_c {n : Nat} {s add del r : List Int} (h1 : isSetB n s = true) (h2 : isSetB n add = true) (h : selK (updAt s add del) n = r) : updL s add del = r := (updL_eq (isSet_of h1) (isSet_of h2)).trans h
def c_R1_After : Cmd :=
  (.seq
   (.ops [
   .op (some 3) none (.box 3072196 4 (.t 0)),
   .op (some 6) none (.mov (.c (.sl .nil [])))])
   (.cut
   (.seq
   (.ops [
   .op (some 7) none (.newVec 3072449)])
   (.cut
   (.seq
   (.seq
   (.ops [
   .op (some 8) none (.mov (.c (.int .i64 (0))))])
   (.cut
   (.block 0
   (.loop
   (.seq
   (.seq
   (.ops [
   .op (some 9) none (.mov (.t 8)),
   .op (some 10) none (.faddr 0 (.t 3)),
   .op (some 11) none (.load false 1 (.t 10)),
   .op (some 12) none (.bin .lss false [] (.t 9) (.t 11))])
   (.cut
   (.cond (.t 12)
   .skip
   (.exit 0))))
   (.cut
   (.seq
   (.block 1
   (.seq
   (.ops [
   .op (some 15) none (.faddr 3 (.t 3)),
   .op (some 16) none (.load false 1 (.t 15)),
   .op (some 17) none (.mov (.t 2)),
   .op (some 18) none (.iaddr 4 (.t 16) (.t 17)),
   .op (some 19) none (.faddr 1 (.t 18)),
   .op (some 20) none (.load false 1 (.t 19)),
   .op (some 21) none (.mov (.t 8)),
   .op (some 22) none (.call .f (.c (.fn 52 [])) [.t 20, .t 21]),
   .op (some 23) none (.mov (.t 22)),
   .op (some 24) (some (23, false)) (.mov (.t 1)),
   .op (some 25) (some (23, false)) (.mov (.t 8)),
   .op (some 26) (some (23, false)) (.call .f (.c (.fn 52 [])) [.t 24, .t 25]),
   .op (some 27) (some (23, false)) (.mov (.t 26)),
   .op (some 28) (some (27, true)) (.faddr 3 (.t 3)),
   .op (some 29) (some (27, true)) (.load false 1 (.t 28)),
   .op (some 30) (some (27, true)) (.mov (.t 2)),
   .op (some 31) (some (27, true)) (.iaddr 4 (.t 29) (.t 30)),
   .op (some 32) (some (27, true)) (.faddr 2 (.t 31)),
   .op (some 33) (some (27, true)) (.load false 1 (.t 32)),
   .op (some 34) (some (27, true)) (.mov (.t 8)),
   .op (some 35) (some (27, true)) (.call .f (.c (.fn 52 [])) [.t 33, .t 34]),
   .op (some 36) (some (27, true)) (.not (.t 35)),
   .op (some 37) (some (23, false)) (.pick (.t 27) (.t 36) (.c (.bool false))),
   .op (some 38) none (.pick (.t 23) (.c (.bool true)) (.t 37))])
   (.cut
   (.cond (.t 38)
   (.ops [
   .op (some 39) none (.mov (.t 7)),
   .op (some 40) none (.mov (.t 8)),
   .op (some 41) none (.bsl 1 [.t 40]),
   .op (some 42) none (.append 1 8 (.t 39) (.t 41)),
   .op (some 7) none (.mov (.t 42))])
   .skip))))
   (.cut
   (.ops [
   .op (some 13) none (.mov (.t 8)),
   .op (some 14) none (.bin .add false [] (.t 13) (.c (.int .i64 (1)))),
   .op (some 8) none (.mov (.t 14))])))))))))
   (.cut
   (.seq
   (.ops [
   .op (some 43) none (.mov (.t 7)),
   .op (some 6) none (.mov (.t 43))])
   .ret)))))))
def r_R1_After : List RVar := [.tmp 6]
def n_R1_After : Nat := 44
theorem k_R1_After : chkFn Go.Proofs.Try.prog 48 n_R1_After r_R1_After c_R1_After = true := by kernel_rfl
theorem f_R1_After (t : STask) (hv : SV t) (s : List Int) (hs : IsSet t.facts s) (op : Int) (h0 : 0 ≤ op) (o : SOp) (hc : t.ops[op.toNat]? = some o) : Fc Go.Proofs.Try.prog 48 [skV t, .sl .p (s.map i64V), .int .i64 op] (.sl .p ((updL s o.add o.del).map i64V)) := by
  have hoo := hv.op o (mem_get hc)
  have hsl := set_le hv hs
  have hal := set_le hv hoo.add
  have hdl := set_le hv hoo.del
  rw [updL_eqF hv hs hoo.add]
  have hf := facts_nat hv
  have hf1 := hv.f1
  generalize t.facts.toNat = n at *
  refine Fn.step mixed k_R1_After ?_
  repeat (first | refine i_len rfl ?_ | refine i_s rfl ?_ | refine i_lenm rfl rfl rfl ?_ | refine c_seq ?_ | refine c_cut0 ?_ | refine c_ops ?_ | refine i_nil ?_ | refine e_seq ?_ | refine e_block ?_ | refine c_block ?_ | refine c_skip ?_ | refine c_ret ?_ | refine c_exit ?_ | refine e_exit rfl ?_ | refine i_s0 rfl ?_ | refine c_leaf ?_ | refine i_gt rfl ?_ | refine i_gf rfl ?_ | refine i_gd rfl ?_ | refine c_t rfl ?_ | refine c_f rfl ?_ | refine i_conv rfl (by simp only [InR, List.length_map]; omega) ?_ | refine i_add rfl rfl (by simp only [InR, List.length_map]; omega) ?_ | refine i_sub rfl rfl (by simp only [InR, List.length_map]; omega) ?_ | refine i_ixm rfl rfl (by assumption) ?_ | refine i_iai rfl rfl (by omega) (by assumption) rfl ?_ | refine i_iam rfl rfl (by assumption) rfl ?_ | refine i_tk rfl rfl (by omega) ?_ | refine i_stb rfl ?_ | refine i_alloc rfl ?_ | refine i_box rfl rfl ?_ | refine i_nv rfl ?_)
  refine c_for n (fun k => [(1, .sl .p (s.map i64V)), (2, .int .i64 op), (3, .bptr 3072196 0), (7, .sl (.own 3072449) ((selK (updAt s o.add o.del) k).map i64V)), (8, .int .i64 k)]) (fun k => [(3072196, .box (skV t)), (3072449, .vec (selK (updAt s o.add o.del) k).length)]) (fun _ => True) trivial ⟨by repeat (first | exact trivial | refine ⟨rfl, ?_⟩), by repeat (first | exact trivial | refine ⟨rfl, ?_⟩), rfl⟩ fun k hk _ => ?_
  have hml := selK_len (updAt s o.add o.del) k
  have e := selK_succ (updAt s o.add o.del) k
  have e2 : updAt s o.add o.del k = (decide ((k : Int) ∈ o.add) || (decide ((k : Int) ∈ s) && !decide ((k : Int) ∈ o.del))) := rfl
  repeat (first | refine i_len rfl ?_ | refine i_s rfl ?_ | refine i_lenm rfl rfl rfl ?_ | refine c_seq ?_ | refine c_cut0 ?_ | refine c_ops ?_ | refine i_nil ?_ | refine e_seq ?_ | refine e_block ?_ | refine c_block ?_ | refine c_skip ?_ | refine c_ret ?_ | refine c_exit ?_ | refine e_exit rfl ?_ | refine i_s0 rfl ?_ | refine c_leaf ?_ | refine i_gt rfl ?_ | refine i_gf rfl ?_ | refine i_gd rfl ?_ | refine c_t rfl ?_ | refine c_f rfl ?_ | refine i_conv rfl (by simp only [InR, List.length_map]; omega) ?_ | refine i_add rfl rfl (by simp only [InR, List.length_map]; omega) ?_ | refine i_sub rfl rfl (by simp only [InR, List.length_map]; omega) ?_ | refine i_ixm rfl rfl (by assumption) ?_ | refine i_iai rfl rfl (by omega) (by assumption) rfl ?_ | refine i_iam rfl rfl (by assumption) rfl ?_ | refine i_tk rfl rfl (by omega) ?_ | refine i_stb rfl ?_ | refine i_alloc rfl ?_ | refine i_box rfl rfl ?_ | refine i_nv rfl ?_)
  refine c_cond rfl (fun h => ?_) (fun h => ?_)
  · have hlt : k < n := by have : (k : Int) < t.facts := by simpa using h
                           omega
    have hA := f_R1_Has o.add k (by omega)
    have hS := f_R1_Has s k (by omega)
    have hD := f_R1_Has o.del k (by omega)
    clear h hv hs hoo
    cases b1 : decide ((k : Int) ∈ o.add) <;> cases b2 : decide ((k : Int) ∈ s) <;> cases b3 : decide ((k : Int) ∈ o.del)
    all_goals
      rw [b1] at hA
      rw [b2] at hS
      rw [b3] at hD
      rw [b1, b2, b3] at e2
      rw [e2] at e
      clear e2 b1 b2 b3
      repeat (first | refine i_len rfl ?_ | refine i_s rfl ?_ | refine i_lenm rfl rfl rfl ?_ | refine c_seq ?_ | refine c_cut0 ?_ | refine c_ops ?_ | refine i_nil ?_ | refine e_seq ?_ | refine e_block ?_ | refine c_block ?_ | refine c_skip ?_ | refine c_ret ?_ | refine c_exit ?_ | refine e_exit rfl ?_ | refine i_s0 rfl ?_ | refine c_leaf ?_ | refine i_gt rfl ?_ | refine i_gf rfl ?_ | refine i_gd rfl ?_ | refine c_t rfl ?_ | refine c_f rfl ?_ | refine i_conv rfl (by simp only [InR, List.length_map]; omega) ?_ | refine i_add rfl rfl (by simp only [InR, List.length_map]; omega) ?_ | refine i_sub rfl rfl (by simp only [InR, List.length_map]; omega) ?_ | refine i_ixm rfl rfl (by assumption) ?_ | refine i_iai rfl rfl (by omega) (by assumption) rfl ?_ | refine i_iam rfl rfl (by assumption) rfl ?_ | refine i_tk rfl rfl (by omega) ?_ | refine i_stb rfl ?_ | refine i_alloc rfl ?_ | refine i_box rfl rfl ?_ | refine i_nv rfl ?_ | refine i_f rfl rfl (hA) rfl ?_ | refine i_f rfl rfl (hS) rfl ?_ | refine i_f rfl rfl (hD) rfl ?_)
      first
        | (refine i_appM rfl rfl rfl rfl rfl (by omega) (by omega) ?_
           repeat (first | refine i_len rfl ?_ | refine i_s rfl ?_ | refine i_lenm rfl rfl rfl ?_ | refine c_seq ?_ | refine c_cut0 ?_ | refine c_ops ?_ | refine i_nil ?_ | refine e_seq ?_ | refine e_block ?_ | refine c_block ?_ | refine c_skip ?_ | refine c_ret ?_ | refine c_exit ?_ | refine e_exit rfl ?_ | refine i_s0 rfl ?_ | refine c_leaf ?_ | refine i_gt rfl ?_ | refine i_gf rfl ?_ | refine i_gd rfl ?_ | refine c_t rfl ?_ | refine c_f rfl ?_ | refine i_conv rfl (by simp only [InR, List.length_map]; omega) ?_ | refine i_add rfl rfl (by simp only [InR, List.length_map]; omega) ?_ | refine i_sub rfl rfl (by simp only [InR, List.length_map]; omega) ?_ | refine i_ixm rfl rfl (by assumption) ?_ | refine i_iai rfl rfl (by omega) (by assumption) rfl ?_ | refine i_iam rfl rfl (by assumption) rfl ?_ | refine i_tk rfl rfl (by omega) ?_ | refine i_stb rfl ?_ | refine i_alloc rfl ?_ | refine i_box rfl rfl ?_ | refine i_nv rfl ?_)
           refine e_for hlt trivial ⟨⟨rfl, rfl, rfl, ?_, rfl, trivial⟩, ⟨rfl, ?_, trivial⟩, rfl⟩
           · rw [e]; rfl
           · rw [e]; simp; rfl)
        | (refine e_for hlt trivial ⟨⟨rfl, rfl, rfl, ?_, rfl, trivial⟩, ⟨rfl, ?_, trivial⟩, rfl⟩
           · rw [e]; simp; rfl
           · rw [e]; simp; rfl)
  · have hge : k = n := by have : ¬ (k : Int) < t.facts := by simpa using h
                           omega
    subst hge
    repeat (first | refine i_len rfl ?_ | refine i_s rfl ?_ | refine i_lenm rfl rfl rfl ?_ | refine c_seq ?_ | refine c_cut0 ?_ | refine c_ops ?_ | refine i_nil ?_ | refine e_seq ?_ | refine e_block ?_ | refine c_block ?_ | refine c_skip ?_ | refine c_ret ?_ | refine c_exit ?_ | refine e_exit rfl ?_ | refine i_s0 rfl ?_ | refine c_leaf ?_ | refine i_gt rfl ?_ | refine i_gf rfl ?_ | refine i_gd rfl ?_ | refine c_t rfl ?_ | refine c_f rfl ?_ | refine i_conv rfl (by simp only [InR, List.length_map]; omega) ?_ | refine i_add rfl rfl (by simp only [InR, List.length_map]; omega) ?_ | refine i_sub rfl rfl (by simp only [InR, List.length_map]; omega) ?_ | refine i_ixm rfl rfl (by assumption) ?_ | refine i_iai rfl rfl (by omega) (by assumption) rfl ?_ | refine i_iam rfl rfl (by assumption) rfl ?_ | refine i_tk rfl rfl (by omega) ?_ | refine i_stb rfl ?_ | refine i_alloc rfl ?_ | refine i_box rfl rfl ?_ | refine i_nv rfl ?_)
    exact e_ret ⟨rfl, _, rfl, rfl⟩
def endV (o : Option (List Int)) : V := match o with
  | some e => .tup [.sl .p (e.map i64V), .bool true]
  | none => .tup [.sl .p [], .bool false]
def c_R1_Ends : Cmd :=
  (.seq
   (.ops [
   .op (some 3) none (.box 1984196 4 (.t 0)),
   .op (some 6) none (.mov (.c (.sl .nil []))),
   .op (some 7) none (.mov (.c (.bool false)))])
   (.cut
   (.seq
   (.seq
   (.ops [
   .op (some 8) none (.mov (.c (.int .i64 (0))))])
   (.cut
   (.block 0
   (.loop
   (.seq
   (.seq
   (.ops [
   .op (some 9) none (.mov (.t 8)),
   .op (some 10) none (.mov (.t 2)),
   .op (some 11) none (.len false (.t 10)),
   .op (some 12) none (.bin .lss false [] (.t 9) (.t 11))])
   (.cut
   (.cond (.t 12)
   .skip
   (.exit 0))))
   (.cut
   (.seq
   (.block 1
   (.seq
   (.seq
   (.ops [
   .op (some 15) none (.load true 4 (.t 3)),
   .op (some 16) none (.mov (.t 1)),
   .op (some 17) none (.mov (.t 2)),
   .op (some 18) none (.mov (.t 8)),
   .op (some 19) none (.iaddr 1 (.t 17) (.t 18)),
   .op (some 20) none (.load false 1 (.t 19)),
   .op (some 21) none (.call .f (.c (.fn 47 [])) [.t 15, .t 16, .t 20]),
   .op (some 22) none (.not (.t 21))])
   (.cut
   (.cond (.t 22)
   (.seq
   (.ops [
   .op (some 6) none (.mov (.c (.sl .nil []))),
   .op (some 7) none (.mov (.c (.bool false)))])
   .ret)
   .skip)))
   (.cut
   (.ops [
   .op (some 23) none (.load true 4 (.t 3)),
   .op (some 24) none (.mov (.t 1)),
   .op (some 25) none (.mov (.t 2)),
   .op (some 26) none (.mov (.t 8)),
   .op (some 27) none (.iaddr 1 (.t 25) (.t 26)),
   .op (some 28) none (.load false 1 (.t 27)),
   .op (some 29) none (.call .f (.c (.fn 48 [])) [.t 23, .t 24, .t 28]),
   .op (some 1) none (.mov (.t 29))]))))
   (.cut
   (.ops [
   .op (some 13) none (.mov (.t 8)),
   .op (some 14) none (.bin .add false [] (.t 13) (.c (.int .i64 (1)))),
   .op (some 8) none (.mov (.t 14))])))))))))
   (.cut
   (.seq
   (.ops [
   .op (some 30) none (.mov (.t 1)),
   .op (some 6) none (.mov (.t 30)),
   .op (some 7) none (.mov (.c (.bool true)))])
   .ret)))))
def r_R1_Ends : List RVar := [.tmp 6, .tmp 7]
def n_R1_Ends : Nat := 31
theorem k_R1_Ends : chkFn Go.Proofs.Try.prog 31 n_R1_Ends r_R1_Ends c_R1_Ends = true := by kernel_rfl
theorem f_R1_Ends (t : STask) (hv : SV t) (s : List Int) (hs : IsSet t.facts s) (plan : List Int) (hl : plan.length ≤ 1000000) (hp : ∀ x ∈ plan, 0 ≤ x ∧ x < t.ops.length) : Fc Go.Proofs.Try.prog 31 [skV t, .sl .p (s.map i64V), .sl .p (plan.map i64V)] (endV (endS t s plan)) := by
  refine Fn.step mixed k_R1_Ends ?_
  repeat (first | refine i_len rfl ?_ | refine i_s rfl ?_ | refine i_lenm rfl rfl rfl ?_ | refine c_seq ?_ | refine c_cut0 ?_ | refine c_ops ?_ | refine i_nil ?_ | refine e_seq ?_ | refine e_block ?_ | refine c_block ?_ | refine c_skip ?_ | refine c_ret ?_ | refine c_exit ?_ | refine e_exit rfl ?_ | refine i_s0 rfl ?_ | refine c_leaf ?_ | refine i_gt rfl ?_ | refine i_gf rfl ?_ | refine i_gd rfl ?_ | refine c_t rfl ?_ | refine c_f rfl ?_ | refine i_conv rfl (by simp only [InR, List.length_map]; omega) ?_ | refine i_add rfl rfl (by simp only [InR, List.length_map]; omega) ?_ | refine i_sub rfl rfl (by simp only [InR, List.length_map]; omega) ?_ | refine i_ixm rfl rfl (by assumption) ?_ | refine i_iai rfl rfl (by omega) (by assumption) rfl ?_ | refine i_iam rfl rfl (by assumption) rfl ?_ | refine i_tk rfl rfl (by omega) ?_ | refine i_stb rfl ?_ | refine i_alloc rfl ?_ | refine i_box rfl rfl ?_ | refine i_nv rfl ?_)
  refine c_lp (ι := Nat × List Int) (fun i => [(1, .sl .p (i.2.map i64V)), (2, .sl .p (plan.map i64V)), (3, .bptr 1984196 0), (8, .int .i64 i.1)])
    (fun i => [(1984196, .box (skV t))])
    (fun i => i.1 ≤ plan.length ∧ IsSet t.facts i.2 ∧ endS t i.2 (plan.drop i.1) = endS t s plan) (fun i => plan.length - i.1) (0, s) ⟨Nat.zero_le _, hs, rfl⟩ ⟨by repeat (first | exact trivial | refine ⟨rfl, ?_⟩), by repeat (first | exact trivial | refine ⟨rfl, ?_⟩), rfl⟩ fun i hi => ?_
  obtain ⟨k, u⟩ := i
  obtain ⟨h1, h3, h4⟩ := hi
  simp only at h1 h3 h4
  have hul := set_le hv h3
  clear hs
  repeat (first | refine i_len rfl ?_ | refine i_s rfl ?_ | refine i_lenm rfl rfl rfl ?_ | refine c_seq ?_ | refine c_cut0 ?_ | refine c_ops ?_ | refine i_nil ?_ | refine e_seq ?_ | refine e_block ?_ | refine c_block ?_ | refine c_skip ?_ | refine c_ret ?_ | refine c_exit ?_ | refine e_exit rfl ?_ | refine i_s0 rfl ?_ | refine c_leaf ?_ | refine i_gt rfl ?_ | refine i_gf rfl ?_ | refine i_gd rfl ?_ | refine c_t rfl ?_ | refine c_f rfl ?_ | refine i_conv rfl (by simp only [InR, List.length_map]; omega) ?_ | refine i_add rfl rfl (by simp only [InR, List.length_map]; omega) ?_ | refine i_sub rfl rfl (by simp only [InR, List.length_map]; omega) ?_ | refine i_ixm rfl rfl (by assumption) ?_ | refine i_iai rfl rfl (by omega) (by assumption) rfl ?_ | refine i_iam rfl rfl (by assumption) rfl ?_ | refine i_tk rfl rfl (by omega) ?_ | refine i_stb rfl ?_ | refine i_alloc rfl ?_ | refine i_box rfl rfl ?_ | refine i_nv rfl ?_)
  refine c_cond rfl (fun h => ?_) (fun h => ?_)
  · have hlt : k < plan.length := by simpa using h
    obtain ⟨x, hx⟩ := get_some hlt
    obtain ⟨x0, x1⟩ := hp x (mem_get hx)
    obtain ⟨o, hc⟩ := get_some (l := t.ops) (k := x.toNat) (by omega)
    have hoo := hv.op o (mem_get hc)
    have hA := f_R1_Applies t u (by omega) x x0 o hc (by have := set_le hv hoo.pre; omega)
    have hN := f_R1_After t hv u h3 x x0 o hc
    have ed : plan.drop k = x :: plan.drop (k + 1) := by
      obtain ⟨h5, h6⟩ := List.getElem?_eq_some_iff.1 hx
      rw [← h6]; exact List.drop_eq_getElem_cons hlt
    have hst := stepS_op (s := u) hc
    rw [ed] at h4
    simp only [endS, hst] at h4
    clear h
    cases hi : inclB o.pre u with
    | true =>
      rw [hi] at hA
      rw [hi, if_pos rfl] at h4
      repeat (first | refine i_len rfl ?_ | refine i_s rfl ?_ | refine i_lenm rfl rfl rfl ?_ | refine c_seq ?_ | refine c_cut0 ?_ | refine c_ops ?_ | refine i_nil ?_ | refine e_seq ?_ | refine e_block ?_ | refine c_block ?_ | refine c_skip ?_ | refine c_ret ?_ | refine c_exit ?_ | refine e_exit rfl ?_ | refine i_s0 rfl ?_ | refine c_leaf ?_ | refine i_gt rfl ?_ | refine i_gf rfl ?_ | refine i_gd rfl ?_ | refine c_t rfl ?_ | refine c_f rfl ?_ | refine i_conv rfl (by simp only [InR, List.length_map]; omega) ?_ | refine i_add rfl rfl (by simp only [InR, List.length_map]; omega) ?_ | refine i_sub rfl rfl (by simp only [InR, List.length_map]; omega) ?_ | refine i_ixm rfl rfl (by assumption) ?_ | refine i_iai rfl rfl (by omega) (by assumption) rfl ?_ | refine i_iam rfl rfl (by assumption) rfl ?_ | refine i_tk rfl rfl (by omega) ?_ | refine i_stb rfl ?_ | refine i_alloc rfl ?_ | refine i_box rfl rfl ?_ | refine i_nv rfl ?_ | refine i_f rfl rfl (hA) rfl ?_ | refine i_f rfl rfl (hN) rfl ?_)
      exact e_lp (k + 1, updL u o.add o.del) ⟨hlt, updL_set h3 hoo.add, h4⟩ (by simp only; omega) ⟨by repeat (first | exact trivial | refine ⟨rfl, ?_⟩), by repeat (first | exact trivial | refine ⟨rfl, ?_⟩), rfl⟩
    | false =>
      rw [hi] at hA
      rw [hi, if_neg (by simp)] at h4
      repeat (first | refine i_len rfl ?_ | refine i_s rfl ?_ | refine i_lenm rfl rfl rfl ?_ | refine c_seq ?_ | refine c_cut0 ?_ | refine c_ops ?_ | refine i_nil ?_ | refine e_seq ?_ | refine e_block ?_ | refine c_block ?_ | refine c_skip ?_ | refine c_ret ?_ | refine c_exit ?_ | refine e_exit rfl ?_ | refine i_s0 rfl ?_ | refine c_leaf ?_ | refine i_gt rfl ?_ | refine i_gf rfl ?_ | refine i_gd rfl ?_ | refine c_t rfl ?_ | refine c_f rfl ?_ | refine i_conv rfl (by simp only [InR, List.length_map]; omega) ?_ | refine i_add rfl rfl (by simp only [InR, List.length_map]; omega) ?_ | refine i_sub rfl rfl (by simp only [InR, List.length_map]; omega) ?_ | refine i_ixm rfl rfl (by assumption) ?_ | refine i_iai rfl rfl (by omega) (by assumption) rfl ?_ | refine i_iam rfl rfl (by assumption) rfl ?_ | refine i_tk rfl rfl (by omega) ?_ | refine i_stb rfl ?_ | refine i_alloc rfl ?_ | refine i_box rfl rfl ?_ | refine i_nv rfl ?_ | refine i_f rfl rfl (hA) rfl ?_ | refine i_f rfl rfl (hN) rfl ?_)
      exact e_ret ⟨rfl, _, rfl, by rw [← h4]; rfl⟩
  · have hge : k = plan.length := by have : ¬ k < plan.length := by simpa using h
                                     omega
    subst hge
    rw [List.drop_length] at h4
    simp only [endS] at h4
    repeat (first | refine i_len rfl ?_ | refine i_s rfl ?_ | refine i_lenm rfl rfl rfl ?_ | refine c_seq ?_ | refine c_cut0 ?_ | refine c_ops ?_ | refine i_nil ?_ | refine e_seq ?_ | refine e_block ?_ | refine c_block ?_ | refine c_skip ?_ | refine c_ret ?_ | refine c_exit ?_ | refine e_exit rfl ?_ | refine i_s0 rfl ?_ | refine c_leaf ?_ | refine i_gt rfl ?_ | refine i_gf rfl ?_ | refine i_gd rfl ?_ | refine c_t rfl ?_ | refine c_f rfl ?_ | refine i_conv rfl (by simp only [InR, List.length_map]; omega) ?_ | refine i_add rfl rfl (by simp only [InR, List.length_map]; omega) ?_ | refine i_sub rfl rfl (by simp only [InR, List.length_map]; omega) ?_ | refine i_ixm rfl rfl (by assumption) ?_ | refine i_iai rfl rfl (by omega) (by assumption) rfl ?_ | refine i_iam rfl rfl (by assumption) rfl ?_ | refine i_tk rfl rfl (by omega) ?_ | refine i_stb rfl ?_ | refine i_alloc rfl ?_ | refine i_box rfl rfl ?_ | refine i_nv rfl ?_)
    exact e_ret ⟨rfl, _, rfl, by rw [← h4]; rfl⟩
def c_R1_Works : Cmd :=
  (.seq
   (.ops [
   .op (some 3) none (.box 3136196 4 (.t 0)),
   .op (some 6) none (.mov (.c (.bool false)))])
   (.cut
   (.seq
   (.ops [
   .op (some 10) none (.load true 4 (.t 3)),
   .op (some 11) none (.mov (.t 1)),
   .op (some 12) none (.mov (.t 2)),
   .op (some 13) none (.call .f (.c (.fn 31 [])) [.t 10, .t 11, .t 12]),
   .op (some 9) none (.mov (.t 13)),
   .op (some 14) none (.extract (.t 9) 0),
   .op (some 15) none (.extract (.t 9) 1),
   .op (some 7) none (.mov (.t 14)),
   .op (some 8) none (.mov (.t 15))])
   (.cut
   (.seq
   (.ops [
   .op (some 16) none (.mov (.t 8)),
   .op (some 17) none (.mov (.t 16)),
   .op (some 18) (some (17, true)) (.faddr 2 (.t 3)),
   .op (some 19) (some (17, true)) (.load false 1 (.t 18)),
   .op (some 20) (some (17, true)) (.mov (.t 7)),
   .op (some 21) (some (17, true)) (.call .f (.c (.fn 55 [])) [.t 19, .t 20]),
   .op (some 22) none (.pick (.t 17) (.t 21) (.c (.bool false))),
   .op (some 6) none (.mov (.t 22))])
   .ret)))))
def r_R1_Works : List RVar := [.tmp 6]
def n_R1_Works : Nat := 23
theorem k_R1_Works : chkFn Go.Proofs.Try.prog 49 n_R1_Works r_R1_Works c_R1_Works = true := by kernel_rfl
theorem f_R1_Works (t : STask) (hv : SV t) (s : List Int) (hs : IsSet t.facts s) (plan : List Int) (hl : plan.length ≤ 1000000) (hp : ∀ x ∈ plan, 0 ≤ x ∧ x < t.ops.length) : Fc Go.Proofs.Try.prog 49 [skV t, .sl .p (s.map i64V), .sl .p (plan.map i64V)] (.bool (worksB t s plan)) := by
  have hE := f_R1_Ends t hv s hs plan hl hp
  have hgl := set_le hv hv.goal
  unfold worksB
  cases he : endS t s plan with
  | some e =>
    have hel := set_le hv (endS_set hv plan s e hs he)
    have hS := f_R1_Subset t.goal e (by omega) (by omega)
    rw [he] at hE
    refine Fn.step mixed k_R1_Works ?_
    repeat' (first | refine i_len rfl ?_ | refine i_s rfl ?_ | refine i_lenm rfl rfl rfl ?_ | refine c_seq ?_ | refine c_cut0 ?_ | refine c_ops ?_ | refine i_nil ?_ | refine e_seq ?_ | refine e_block ?_ | refine c_block ?_ | refine c_skip ?_ | refine c_ret ?_ | refine c_exit ?_ | refine e_exit rfl ?_ | refine i_s0 rfl ?_ | refine c_leaf ?_ | refine i_gt rfl ?_ | refine i_gf rfl ?_ | refine i_gd rfl ?_ | refine c_t rfl ?_ | refine c_f rfl ?_ | refine i_conv rfl (by simp only [InR, List.length_map]; omega) ?_ | refine i_add rfl rfl (by simp only [InR, List.length_map]; omega) ?_ | refine i_sub rfl rfl (by simp only [InR, List.length_map]; omega) ?_ | refine i_ixm rfl rfl (by assumption) ?_ | refine i_iai rfl rfl (by omega) (by assumption) rfl ?_ | refine i_iam rfl rfl (by assumption) rfl ?_ | refine i_tk rfl rfl (by omega) ?_ | refine i_stb rfl ?_ | refine i_alloc rfl ?_ | refine i_box rfl rfl ?_ | refine i_nv rfl ?_ | refine c_node ?_ ?_ | refine i_g rfl (fun h => ?_) (fun h => ?_) | refine c_cond rfl (fun h => ?_) (fun h => ?_) | refine i_f rfl rfl (hE) rfl ?_ | refine i_f rfl rfl (hS) rfl ?_)
    exact e_ret ⟨rfl, _, rfl, rfl⟩
  | none =>
    rw [he] at hE
    refine Fn.step mixed k_R1_Works ?_
    repeat' (first | refine i_len rfl ?_ | refine i_s rfl ?_ | refine i_lenm rfl rfl rfl ?_ | refine c_seq ?_ | refine c_cut0 ?_ | refine c_ops ?_ | refine i_nil ?_ | refine e_seq ?_ | refine e_block ?_ | refine c_block ?_ | refine c_skip ?_ | refine c_ret ?_ | refine c_exit ?_ | refine e_exit rfl ?_ | refine i_s0 rfl ?_ | refine c_leaf ?_ | refine i_gt rfl ?_ | refine i_gf rfl ?_ | refine i_gd rfl ?_ | refine c_t rfl ?_ | refine c_f rfl ?_ | refine i_conv rfl (by simp only [InR, List.length_map]; omega) ?_ | refine i_add rfl rfl (by simp only [InR, List.length_map]; omega) ?_ | refine i_sub rfl rfl (by simp only [InR, List.length_map]; omega) ?_ | refine i_ixm rfl rfl (by assumption) ?_ | refine i_iai rfl rfl (by omega) (by assumption) rfl ?_ | refine i_iam rfl rfl (by assumption) rfl ?_ | refine i_tk rfl rfl (by omega) ?_ | refine i_stb rfl ?_ | refine i_alloc rfl ?_ | refine i_box rfl rfl ?_ | refine i_nv rfl ?_ | refine c_node ?_ ?_ | refine i_g rfl (fun h => ?_) (fun h => ?_) | refine c_cond rfl (fun h => ?_) (fun h => ?_) | refine i_f rfl rfl (hE) rfl ?_)
    exact e_ret ⟨rfl, _, rfl, rfl⟩
def c_R1_Solves : Cmd :=
  (.seq
   (.ops [
   .op (some 2) none (.box 2048132 4 (.t 0)),
   .op (some 4) none (.mov (.c (.bool false)))])
   (.cut
   (.seq
   (.ops [
   .op (some 5) none (.load true 4 (.t 2)),
   .op (some 6) none (.faddr 1 (.t 2)),
   .op (some 7) none (.load false 1 (.t 6)),
   .op (some 8) none (.mov (.t 1)),
   .op (some 9) none (.call .f (.c (.fn 49 [])) [.t 5, .t 7, .t 8]),
   .op (some 4) none (.mov (.t 9))])
   .ret)))
def r_R1_Solves : List RVar := [.tmp 4]
def n_R1_Solves : Nat := 10
theorem k_R1_Solves : chkFn Go.Proofs.Try.prog 32 n_R1_Solves r_R1_Solves c_R1_Solves = true := by kernel_rfl
theorem f_R1_Solves (t : STask) (hv : SV t) (plan : List Int) (hl : plan.length ≤ 1000000) (hp : ∀ x ∈ plan, 0 ≤ x ∧ x < t.ops.length) : Fc Go.Proofs.Try.prog 32 [skV t, .sl .p (plan.map i64V)] (.bool (worksB t t.init plan)) := by
  have hW := f_R1_Works t hv t.init hv.init plan hl hp
  refine Fn.step mixed k_R1_Solves ?_
  repeat' (first | refine i_len rfl ?_ | refine i_s rfl ?_ | refine i_lenm rfl rfl rfl ?_ | refine c_seq ?_ | refine c_cut0 ?_ | refine c_ops ?_ | refine i_nil ?_ | refine e_seq ?_ | refine e_block ?_ | refine c_block ?_ | refine c_skip ?_ | refine c_ret ?_ | refine c_exit ?_ | refine e_exit rfl ?_ | refine i_s0 rfl ?_ | refine c_leaf ?_ | refine i_gt rfl ?_ | refine i_gf rfl ?_ | refine i_gd rfl ?_ | refine c_t rfl ?_ | refine c_f rfl ?_ | refine i_conv rfl (by simp only [InR, List.length_map]; omega) ?_ | refine i_add rfl rfl (by simp only [InR, List.length_map]; omega) ?_ | refine i_sub rfl rfl (by simp only [InR, List.length_map]; omega) ?_ | refine i_ixm rfl rfl (by assumption) ?_ | refine i_iai rfl rfl (by omega) (by assumption) rfl ?_ | refine i_iam rfl rfl (by assumption) rfl ?_ | refine i_tk rfl rfl (by omega) ?_ | refine i_stb rfl ?_ | refine i_alloc rfl ?_ | refine i_box rfl rfl ?_ | refine i_nv rfl ?_ | refine c_node ?_ ?_ | refine i_g rfl (fun h => ?_) (fun h => ?_) | refine c_cond rfl (fun h => ?_) (fun h => ?_) | refine i_f rfl rfl (hW) rfl ?_)
  exact e_ret ⟨rfl, _, rfl, rfl⟩
def acT : STask := ⟨3, [0], [2], [⟨[0], [1], [0], 2⟩, ⟨[1], [2], [1], 3⟩]⟩
theorem ac_ok : SkOk acT := by
  refine ⟨by decide, by decide, by decide, fun o ho => ?_⟩
  simp only [acT, List.mem_cons, List.not_mem_nil, or_false] at ho
  rcases ho with rfl | rfl <;> exact ⟨by decide, by decide, by decide⟩
def c_L1_steps : Cmd :=
  (.seq
   (.ops [
   .op (some 0) none (.alloc 1920004 (.agg [.int .i64 (0), .sl .nil [], .sl .nil [], .sl .nil []]))])
   (.cut
   (.seq
   (.ops [
   .op (some 1) none (.bsl 1 [.c (.int .i64 (0))]),
   .op (some 2) none (.bsl 1 [.c (.int .i64 (2))]),
   .op (some 3) none (.bsl 1 [.c (.int .i64 (0))]),
   .op (some 4) none (.bsl 1 [.c (.int .i64 (1))]),
   .op (some 5) none (.bsl 1 [.c (.int .i64 (0))]),
   .op (some 6) none (.build [.sl .nil [], .sl .nil [], .sl .nil [], .int .i64 (0)] [(0, 1, .t 3), (1, 1, .t 4), (2, 1, .t 5), (3, 1, .c (.int .i64 (2)))]),
   .op (some 7) none (.bsl 1 [.c (.int .i64 (1))]),
   .op (some 8) none (.bsl 1 [.c (.int .i64 (2))]),
   .op (some 9) none (.bsl 1 [.c (.int .i64 (1))]),
   .op (some 10) none (.build [.sl .nil [], .sl .nil [], .sl .nil [], .int .i64 (0)] [(0, 1, .t 7), (1, 1, .t 8), (2, 1, .t 9), (3, 1, .c (.int .i64 (3)))]),
   .op (some 11) none (.bsl 4 [.t 6, .t 10]),
   .op (some 12) none (.build [.int .i64 (0), .sl .nil [], .sl .nil [], .sl .nil []] [(0, 1, .c (.int .i64 (3))), (1, 1, .t 1), (2, 1, .t 2), (3, 1, .t 11)]),
   .op none none (.store 4 (.t 0) (.t 12))])
   .ret)))
def r_L1_steps : List RVar := [.cell true 4 0]
def n_L1_steps : Nat := 13
theorem k_L1_steps : chkFn Go.Proofs.Try.prog 30 n_L1_steps r_L1_steps c_L1_steps = true := by kernel_rfl
theorem f_L1_steps : Fc Go.Proofs.Try.prog 30 [] (skV acT) := by
  refine Fn.step mixed k_L1_steps ?_
  repeat' (first | refine i_len rfl ?_ | refine i_s rfl ?_ | refine i_lenm rfl rfl rfl ?_ | refine c_seq ?_ | refine c_cut0 ?_ | refine c_ops ?_ | refine i_nil ?_ | refine e_seq ?_ | refine e_block ?_ | refine c_block ?_ | refine c_skip ?_ | refine c_ret ?_ | refine c_exit ?_ | refine e_exit rfl ?_ | refine i_s0 rfl ?_ | refine c_leaf ?_ | refine i_gt rfl ?_ | refine i_gf rfl ?_ | refine i_gd rfl ?_ | refine c_t rfl ?_ | refine c_f rfl ?_ | refine i_conv rfl (by simp only [InR, List.length_map]; omega) ?_ | refine i_add rfl rfl (by simp only [InR, List.length_map]; omega) ?_ | refine i_sub rfl rfl (by simp only [InR, List.length_map]; omega) ?_ | refine i_ixm rfl rfl (by assumption) ?_ | refine i_iai rfl rfl (by omega) (by assumption) rfl ?_ | refine i_iam rfl rfl (by assumption) rfl ?_ | refine i_tk rfl rfl (by omega) ?_ | refine i_stb rfl ?_ | refine i_alloc rfl ?_ | refine i_box rfl rfl ?_ | refine i_nv rfl ?_ | refine c_node ?_ ?_ | refine i_g rfl (fun h => ?_) (fun h => ?_) | refine c_cond rfl (fun h => ?_) (fun h => ?_))
  exact e_ret ⟨rfl, _, rfl, rfl⟩
theorem ac_f : sFault acT = okF := by decide +kernel
theorem ac_s01 : stFault acT [0, 1] = okF := by decide +kernel
theorem ac_s0 : stFault acT [0] = okF := by decide +kernel
theorem ac_s2 : stFault acT [2] = okF := by decide +kernel
theorem ac_p : plFault acT [0, 1] = okF := by decide +kernel
theorem ac_u1 : updL [0] [1] [0] = [1] := updL_c (n := 3) (by decide +kernel) (by decide +kernel) (by decide +kernel)
theorem ac_u2 : updL [1] [2] [1] = [2] := updL_c (n := 3) (by decide +kernel) (by decide +kernel) (by decide +kernel)
theorem ac_u3 : updL [2] [1] [2] = [1] := updL_c (n := 3) (by decide +kernel) (by decide +kernel) (by decide +kernel)
theorem ac_t0 : stepS acT [0] 0 = some [1] := by
  rw [stepS_op (o := ⟨[0], [1], [0], 2⟩) rfl, if_pos (by decide +kernel), ac_u1]
theorem ac_t1 : stepS acT [1] 1 = some [2] := by
  rw [stepS_op (o := ⟨[1], [2], [1], 3⟩) rfl, if_pos (by decide +kernel), ac_u2]
theorem ac_run : runT acT [0] [0, 1] = [[1], [2]] := by simp [runT, ac_t0, ac_t1]
theorem ac_end : endS acT [0] [0, 1] = some [2] := by simp [endS, ac_t0, ac_t1]
def c_R1_Copy : Cmd :=
  (.seq
   (.ops [
   .op (some 2) none (.mov (.c (.sl .nil [])))])
   (.cut
   (.seq
   (.ops [
   .op (some 3) none (.newArr 1344193)])
   (.cut
   (.seq
   (.ops [
   .op (some 4) none (.mov (.t 3)),
   .op (some 5) none (.mov (.t 0)),
   .op (some 6) none (.append 1 8 (.t 4) (.t 5)),
   .op (some 2) none (.mov (.t 6))])
   .ret)))))
def r_R1_Copy : List RVar := [.tmp 2]
def n_R1_Copy : Nat := 7
theorem k_R1_Copy : chkFn Go.Proofs.Try.prog 21 n_R1_Copy r_R1_Copy c_R1_Copy = true := by kernel_rfl
theorem ct_R1_Copy1 {G : Type} {H : HT G} (s : List Int) (hl : s.length ≤ 17592186044416) (σ : Store) (g : G) (h1 : σ 1344193 = .unused) (hp : ∀ nm, σ nm ≠ .unused → nm ∈ [1344193]) :
    Cc Go.Proofs.Try.prog H 21 [.sl .p (s.map i64V)] [1344193] σ g fun r σ' g' => r = .msl 1344193 1 0 s.length ∧ σ' = stOf [(1344193, .arr 1 (s.map i64V))] ∧ g' = g := by
  refine CT.step _ mixed k_R1_Copy hp fun hM => ?_
  repeat (first | refine i_len rfl ?_ | refine i_s rfl ?_ | refine i_lenm rfl rfl rfl ?_ | refine c_seq ?_ | refine c_cut0 ?_ | refine c_ops ?_ | refine i_nil ?_ | refine e_seq ?_ | refine e_block ?_ | refine c_block ?_ | refine c_skip ?_ | refine c_ret ?_ | refine c_exit ?_ | refine e_exit rfl ?_ | refine i_s0 rfl ?_ | refine c_leaf ?_ | refine i_gt rfl ?_ | refine i_gf rfl ?_ | refine i_gd rfl ?_ | refine c_t rfl ?_ | refine c_f rfl ?_ | refine i_conv rfl (by simp only [InR, List.length_map]; omega) ?_ | refine i_add rfl rfl (by simp only [InR, List.length_map]; omega) ?_ | refine i_sub rfl rfl (by simp only [InR, List.length_map]; omega) ?_ | refine i_ixm rfl rfl (by assumption) ?_ | refine i_iai rfl rfl (by omega) (by assumption) rfl ?_ | refine i_iam rfl rfl (by assumption) rfl ?_ | refine i_tk rfl rfl (by omega) ?_ | refine i_stb rfl ?_ | refine i_alloc rfl ?_ | refine i_box rfl rfl ?_ | refine i_nv rfl ?_)
  refine i_na h1 ?_
  repeat (first | refine i_len rfl ?_ | refine i_s rfl ?_ | refine i_lenm rfl rfl rfl ?_ | refine c_seq ?_ | refine c_cut0 ?_ | refine c_ops ?_ | refine i_nil ?_ | refine e_seq ?_ | refine e_block ?_ | refine c_block ?_ | refine c_skip ?_ | refine c_ret ?_ | refine c_exit ?_ | refine e_exit rfl ?_ | refine i_s0 rfl ?_ | refine c_leaf ?_ | refine i_gt rfl ?_ | refine i_gf rfl ?_ | refine i_gd rfl ?_ | refine c_t rfl ?_ | refine c_f rfl ?_ | refine i_conv rfl (by simp only [InR, List.length_map]; omega) ?_ | refine i_add rfl rfl (by simp only [InR, List.length_map]; omega) ?_ | refine i_sub rfl rfl (by simp only [InR, List.length_map]; omega) ?_ | refine i_ixm rfl rfl (by assumption) ?_ | refine i_iai rfl rfl (by omega) (by assumption) rfl ?_ | refine i_iam rfl rfl (by assumption) rfl ?_ | refine i_tk rfl rfl (by omega) ?_ | refine i_stb rfl ?_ | refine i_alloc rfl ?_ | refine i_box rfl rfl ?_ | refine i_nv rfl ?_)
  refine i_appmM (l := []) (f := i64V) s rfl rfl rfl rfl rfl (fun c hc => ⟨rfl, rfl⟩) (by simp; omega) (by simp; omega) ?_
  repeat (first | refine i_len rfl ?_ | refine i_s rfl ?_ | refine i_lenm rfl rfl rfl ?_ | refine c_seq ?_ | refine c_cut0 ?_ | refine c_ops ?_ | refine i_nil ?_ | refine e_seq ?_ | refine e_block ?_ | refine c_block ?_ | refine c_skip ?_ | refine c_ret ?_ | refine c_exit ?_ | refine e_exit rfl ?_ | refine i_s0 rfl ?_ | refine c_leaf ?_ | refine i_gt rfl ?_ | refine i_gf rfl ?_ | refine i_gd rfl ?_ | refine c_t rfl ?_ | refine c_f rfl ?_ | refine i_conv rfl (by simp only [InR, List.length_map]; omega) ?_ | refine i_add rfl rfl (by simp only [InR, List.length_map]; omega) ?_ | refine i_sub rfl rfl (by simp only [InR, List.length_map]; omega) ?_ | refine i_ixm rfl rfl (by assumption) ?_ | refine i_iai rfl rfl (by omega) (by assumption) rfl ?_ | refine i_iam rfl rfl (by assumption) rfl ?_ | refine i_tk rfl rfl (by omega) ?_ | refine i_stb rfl ?_ | refine i_alloc rfl ?_ | refine i_box rfl rfl ?_ | refine i_nv rfl ?_)
  refine e_ret ⟨rfl, _, rfl, rfl, rfl, rfl, ?_, rfl⟩
  rw [restr_stOf]; rfl
end Hm
end
