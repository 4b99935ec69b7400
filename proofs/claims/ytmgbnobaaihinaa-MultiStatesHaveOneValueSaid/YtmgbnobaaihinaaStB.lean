/- Contracts: faults of states and plans; sets that contain others; copies. -/
import Derived.Test.YtmgbnobaaihinaaStA
section
/- Contracts: faults of states and plans; sets that contain others; copies. -/
namespace Hm
open Go
set_option maxRecDepth 100000
set_option maxHeartbeats 2000000
set_option linter.unusedSimpArgs false
set_option linter.unusedVariables false
def c_strips_Steps : Cmd :=
  (.seq
   (.ops [
   .op (some 4) none (.alloc 3072258 (.agg [.int .i64 (0), .int .i64 (0)]))])
   (.cut
   (.seq
   (.seq
   (.ops [
   .op (some 7) none (.mov (.t 1)),
   .op (some 8) none (.len false (.t 7)),
   .op (some 9) none (.bin .gtr false [] (.t 8) (.c (.int .i64 (60))))])
   (.cut
   (.cond (.t 9)
   (.seq
   (.ops [
   .op (some 10) none (.build [.int .i64 (0), .int .i64 (0)] [(0, 1, .c (.int .i64 (2))), (1, 1, .c (.int .i64 (-5)))]),
   .op none none (.store 2 (.t 4) (.t 10))])
   .ret)
   .skip)))
   (.cut
   (.seq
   (.seq
   (.ops [
   .op (some 11) none (.mov (.t 1)),
   .op (some 12) none (.len false (.t 11)),
   .op (some 13) none (.mov (.c (.int .i64 (0))))])
   (.cut
   (.block 0
   (.loop
   (.seq
   (.ops [
   .op (some 14) none (.bin .lss false [] (.t 13) (.t 12))])
   (.cut
   (.seq
   (.cond (.t 14)
   .skip
   (.exit 0))
   (.cut
   (.seq
   (.block 1
   (.seq
   (.ops [
   .op (some 15) none (.iaddr 1 (.t 11) (.t 13)),
   .op (some 16) none (.load false 1 (.t 15)),
   .op (some 6) none (.mov (.t 16))])
   (.cut
   (.seq
   (.ops [
   .op (some 17) none (.mov (.t 6)),
   .op (some 18) none (.bin .lss false [] (.t 17) (.c (.int .i64 (0)))),
   .op (some 19) none (.mov (.t 18)),
   .op (some 20) (some (19, false)) (.mov (.t 6)),
   .op (some 21) (some (19, false)) (.mov (.t 0)),
   .op (some 22) (some (19, false)) (.bin .geq false [] (.t 20) (.t 21)),
   .op (some 23) none (.pick (.t 19) (.c (.bool true)) (.t 22))])
   (.cut
   (.cond (.t 23)
   (.seq
   (.ops [
   .op (some 24) none (.build [.int .i64 (0), .int .i64 (0)] [(0, 1, .c (.int .i64 (3))), (1, 1, .c (.int .i64 (-6)))]),
   .op none none (.store 2 (.t 4) (.t 24))])
   .ret)
   .skip))))))
   (.cut
   (.ops [
   .op (some 25) none (.bin .add false [] (.t 13) (.c (.int .i64 (1)))),
   .op (some 13) none (.mov (.t 25))])))))))))))
   (.cut
   (.seq
   (.ops [
   .op (some 26) none (.build [.int .i64 (0), .int .i64 (0)] []),
   .op none none (.store 2 (.t 4) (.t 26))])
   .ret)))))))
def r_strips_Steps : List RVar := [.cell true 2 4]
def n_strips_Steps : Nat := 27
theorem k_strips_Steps : chkFn Go.Proofs.Try.prog 48 n_strips_Steps r_strips_Steps c_strips_Steps = true := by kernel_rfl
theorem f_strips_Steps (n : Nat) (plan : List Int) (hl : plan.length ≤ 140737488355328) : Fc Go.Proofs.Try.prog 48 [.int .i64 n, .sl .p (plan.map i64V)] (ftV (stepsF n plan)) := by
  refine Fn.step mixed k_strips_Steps ?_
  repeat' (first | refine i_len rfl ?_ | refine i_s rfl ?_ | refine i_lenm rfl rfl rfl ?_ | refine c_seq ?_ | refine c_cut0 ?_ | refine c_ops ?_ | refine i_nil ?_ | refine e_seq ?_ | refine e_block ?_ | refine c_block ?_ | refine c_skip ?_ | refine c_ret ?_ | refine c_exit ?_ | refine e_exit rfl ?_ | refine i_s0 rfl ?_ | refine c_leaf ?_ | refine i_gt rfl ?_ | refine i_gf rfl ?_ | refine i_gd rfl ?_ | refine c_t rfl ?_ | refine c_f rfl ?_ | refine i_conv rfl (by simp only [InR, List.length_map]; omega) ?_ | refine i_add rfl rfl (by simp only [InR, List.length_map]; omega) ?_ | refine i_sub rfl rfl (by simp only [InR, List.length_map]; omega) ?_ | refine i_ixm rfl rfl (by assumption) ?_ | refine i_iai rfl rfl (by omega) (by assumption) rfl ?_ | refine i_iam rfl rfl (by assumption) rfl ?_ | refine i_tk rfl rfl (by omega) ?_ | refine i_stb rfl ?_ | refine i_alloc rfl ?_ | refine i_box rfl rfl ?_ | refine i_nv rfl ?_ | refine c_node ?_ ?_ | refine i_g rfl (fun h => ?_) (fun h => ?_) | refine c_cond rfl (fun h => ?_) (fun h => ?_))
  · exact e_ret ⟨rfl, _, rfl, congr_ft (by rw [stepsF, if_pos (by grind)])⟩
  have h60 : ¬ plan.length > 60 := by grind
  clear h
  refine c_for plan.length (fun k => [(0, .int .i64 n), (4, .bptr 3072258 0), (11, .sl .p (plan.map i64V)), (12, .int .i64 plan.length), (13, .int .i64 k)]) (fun _ => [(3072258, .box (ftV okF))]) (fun k => (plan.take k).any (badStep n) = false) (by simp) ⟨by repeat (first | exact trivial | refine ⟨rfl, ?_⟩), by repeat (first | exact trivial | refine ⟨rfl, ?_⟩), rfl⟩ fun k hk hi => ?_
  repeat (first | refine i_len rfl ?_ | refine i_s rfl ?_ | refine i_lenm rfl rfl rfl ?_ | refine c_seq ?_ | refine c_cut0 ?_ | refine c_ops ?_ | refine i_nil ?_ | refine e_seq ?_ | refine e_block ?_ | refine c_block ?_ | refine c_skip ?_ | refine c_ret ?_ | refine c_exit ?_ | refine e_exit rfl ?_ | refine i_s0 rfl ?_ | refine c_leaf ?_ | refine i_gt rfl ?_ | refine i_gf rfl ?_ | refine i_gd rfl ?_ | refine c_t rfl ?_ | refine c_f rfl ?_ | refine i_conv rfl (by simp only [InR, List.length_map]; omega) ?_ | refine i_add rfl rfl (by simp only [InR, List.length_map]; omega) ?_ | refine i_sub rfl rfl (by simp only [InR, List.length_map]; omega) ?_ | refine i_ixm rfl rfl (by assumption) ?_ | refine i_iai rfl rfl (by omega) (by assumption) rfl ?_ | refine i_iam rfl rfl (by assumption) rfl ?_ | refine i_tk rfl rfl (by omega) ?_ | refine i_stb rfl ?_ | refine i_alloc rfl ?_ | refine i_box rfl rfl ?_ | refine i_nv rfl ?_)
  refine c_cond rfl (fun h => ?_) (fun h => ?_)
  · have hlt : k < plan.length := by simpa using h
    obtain ⟨x, hx⟩ := get_some hlt
    clear h
    repeat' (first | refine i_len rfl ?_ | refine i_s rfl ?_ | refine i_lenm rfl rfl rfl ?_ | refine c_seq ?_ | refine c_cut0 ?_ | refine c_ops ?_ | refine i_nil ?_ | refine e_seq ?_ | refine e_block ?_ | refine c_block ?_ | refine c_skip ?_ | refine c_ret ?_ | refine c_exit ?_ | refine e_exit rfl ?_ | refine i_s0 rfl ?_ | refine c_leaf ?_ | refine i_gt rfl ?_ | refine i_gf rfl ?_ | refine i_gd rfl ?_ | refine c_t rfl ?_ | refine c_f rfl ?_ | refine i_conv rfl (by simp only [InR, List.length_map]; omega) ?_ | refine i_add rfl rfl (by simp only [InR, List.length_map]; omega) ?_ | refine i_sub rfl rfl (by simp only [InR, List.length_map]; omega) ?_ | refine i_ixm rfl rfl (by assumption) ?_ | refine i_iai rfl rfl (by omega) (by assumption) rfl ?_ | refine i_iam rfl rfl (by assumption) rfl ?_ | refine i_tk rfl rfl (by omega) ?_ | refine i_stb rfl ?_ | refine i_alloc rfl ?_ | refine i_box rfl rfl ?_ | refine i_nv rfl ?_ | refine c_node ?_ ?_ | refine i_g rfl (fun h => ?_) (fun h => ?_) | refine c_cond rfl (fun h => ?_) (fun h => ?_))
    all_goals first
      | refine e_for hlt ?_ ⟨by repeat (first | exact trivial | refine ⟨rfl, ?_⟩), by repeat (first | exact trivial | refine ⟨rfl, ?_⟩), rfl⟩
        rw [take_succ_get hx, List.any_append, hi]
        simp only [List.any_cons, List.any_nil, Bool.or_false, Bool.false_or]
        unfold badStep; clear hi; grind
      | refine e_ret ⟨rfl, _, rfl, congr_ft ?_⟩
        rw [stepsF, if_neg h60, if_pos]
        exact List.any_eq_true.2 ⟨x, mem_get hx, by unfold badStep; clear hi; grind⟩
  · have hge : ¬ k < plan.length := by simpa using h
    rw [List.take_of_length_le (by omega)] at hi
    repeat' (first | refine i_len rfl ?_ | refine i_s rfl ?_ | refine i_lenm rfl rfl rfl ?_ | refine c_seq ?_ | refine c_cut0 ?_ | refine c_ops ?_ | refine i_nil ?_ | refine e_seq ?_ | refine e_block ?_ | refine c_block ?_ | refine c_skip ?_ | refine c_ret ?_ | refine c_exit ?_ | refine e_exit rfl ?_ | refine i_s0 rfl ?_ | refine c_leaf ?_ | refine i_gt rfl ?_ | refine i_gf rfl ?_ | refine i_gd rfl ?_ | refine c_t rfl ?_ | refine c_f rfl ?_ | refine i_conv rfl (by simp only [InR, List.length_map]; omega) ?_ | refine i_add rfl rfl (by simp only [InR, List.length_map]; omega) ?_ | refine i_sub rfl rfl (by simp only [InR, List.length_map]; omega) ?_ | refine i_ixm rfl rfl (by assumption) ?_ | refine i_iai rfl rfl (by omega) (by assumption) rfl ?_ | refine i_iam rfl rfl (by assumption) rfl ?_ | refine i_tk rfl rfl (by omega) ?_ | refine i_stb rfl ?_ | refine i_alloc rfl ?_ | refine i_box rfl rfl ?_ | refine i_nv rfl ?_ | refine c_node ?_ ?_ | refine i_g rfl (fun h => ?_) (fun h => ?_) | refine c_cond rfl (fun h => ?_) (fun h => ?_))
    exact e_ret ⟨rfl, _, rfl, congr_ft (by rw [stepsF, if_neg h60, hi, if_neg (by simp)]; rfl)⟩
def c_R1_StepsFault : Cmd :=
  (.seq
   (.ops [
   .op (some 4) none (.alloc 1216258 (.agg [.int .i64 (0), .int .i64 (0)]))])
   (.cut
   (.seq
   (.seq
   (.ops [
   .op (some 6) none (.mov (.t 1)),
   .op (some 7) none (.len false (.t 6)),
   .op (some 8) none (.bin .gtr false [] (.t 7) (.c (.int .i64 (60))))])
   (.cut
   (.cond (.t 8)
   (.seq
   (.ops [
   .op (some 9) none (.call .f (.c (.fn 12 [])) [.c (.int .i64 (2)), .c (.int .i64 (-5))]),
   .op none none (.store 2 (.t 4) (.t 9))])
   .ret)
   .skip)))
   (.cut
   (.seq
   (.seq
   (.ops [
   .op (some 5) none (.mov (.c (.int .i64 (0))))])
   (.cut
   (.block 0
   (.loop
   (.seq
   (.seq
   (.ops [
   .op (some 10) none (.mov (.t 5)),
   .op (some 11) none (.mov (.t 1)),
   .op (some 12) none (.len false (.t 11)),
   .op (some 13) none (.bin .lss false [] (.t 10) (.t 12))])
   (.cut
   (.cond (.t 13)
   .skip
   (.exit 0))))
   (.cut
   (.seq
   (.block 1
   (.seq
   (.ops [
   .op (some 16) none (.mov (.t 1)),
   .op (some 17) none (.mov (.t 5)),
   .op (some 18) none (.iaddr 1 (.t 16) (.t 17)),
   .op (some 19) none (.load false 1 (.t 18)),
   .op (some 20) none (.mov (.t 0)),
   .op (some 21) none (.bin .sub false [] (.t 20) (.c (.int .i64 (1)))),
   .op (some 22) none (.call .f (.c (.fn 16 [])) [.t 19, .c (.int .i64 (0)), .t 21]),
   .op (some 23) none (.not (.t 22))])
   (.cut
   (.cond (.t 23)
   (.seq
   (.ops [
   .op (some 24) none (.call .f (.c (.fn 12 [])) [.c (.int .i64 (3)), .c (.int .i64 (-6))]),
   .op none none (.store 2 (.t 4) (.t 24))])
   .ret)
   .skip))))
   (.cut
   (.ops [
   .op (some 14) none (.mov (.t 5)),
   .op (some 15) none (.bin .add false [] (.t 14) (.c (.int .i64 (1)))),
   .op (some 5) none (.mov (.t 15))])))))))))
   (.cut
   (.seq
   (.ops [
   .op (some 25) none (.build [.int .i64 (0), .int .i64 (0)] []),
   .op none none (.store 2 (.t 4) (.t 25))])
   .ret)))))))
def r_R1_StepsFault : List RVar := [.cell true 2 4]
def n_R1_StepsFault : Nat := 26
theorem k_R1_StepsFault : chkFn Go.Proofs.Try.prog 19 n_R1_StepsFault r_R1_StepsFault c_R1_StepsFault = true := by kernel_rfl
theorem f_R1_StepsFault (n : Nat) (hn : n ≤ 140737488355328) (plan : List Int) (hl : plan.length ≤ 140737488355328) : Fc Go.Proofs.Try.prog 19 [.int .i64 n, .sl .p (plan.map i64V)] (ftV (stepsF n plan)) := by
  refine Fn.step mixed k_R1_StepsFault ?_
  repeat' (first | refine i_len rfl ?_ | refine i_s rfl ?_ | refine i_lenm rfl rfl rfl ?_ | refine c_seq ?_ | refine c_cut0 ?_ | refine c_ops ?_ | refine i_nil ?_ | refine e_seq ?_ | refine e_block ?_ | refine c_block ?_ | refine c_skip ?_ | refine c_ret ?_ | refine c_exit ?_ | refine e_exit rfl ?_ | refine i_s0 rfl ?_ | refine c_leaf ?_ | refine i_gt rfl ?_ | refine i_gf rfl ?_ | refine i_gd rfl ?_ | refine c_t rfl ?_ | refine c_f rfl ?_ | refine i_conv rfl (by simp only [InR, List.length_map]; omega) ?_ | refine i_add rfl rfl (by simp only [InR, List.length_map]; omega) ?_ | refine i_sub rfl rfl (by simp only [InR, List.length_map]; omega) ?_ | refine i_ixm rfl rfl (by assumption) ?_ | refine i_iai rfl rfl (by omega) (by assumption) rfl ?_ | refine i_iam rfl rfl (by assumption) rfl ?_ | refine i_tk rfl rfl (by omega) ?_ | refine i_stb rfl ?_ | refine i_alloc rfl ?_ | refine i_box rfl rfl ?_ | refine i_nv rfl ?_ | refine c_node ?_ ?_ | refine i_g rfl (fun h => ?_) (fun h => ?_) | refine c_cond rfl (fun h => ?_) (fun h => ?_) | refine i_f rfl rfl (f_R1_At _ _) rfl ?_)
  · exact e_ret ⟨rfl, _, rfl, congr_ft (by rw [stepsF, if_pos (by grind)])⟩
  have h60 : ¬ plan.length > 60 := by grind
  clear h
  refine c_for plan.length (fun k => [(0, .int .i64 n), (1, .sl .p (plan.map i64V)), (4, .bptr 1216258 0), (5, .int .i64 k)]) (fun _ => [(1216258, .box (ftV okF))]) (fun k => (plan.take k).any (badStep n) = false) (by simp) ⟨by repeat (first | exact trivial | refine ⟨rfl, ?_⟩), by repeat (first | exact trivial | refine ⟨rfl, ?_⟩), rfl⟩ fun k hk hi => ?_
  repeat (first | refine i_len rfl ?_ | refine i_s rfl ?_ | refine i_lenm rfl rfl rfl ?_ | refine c_seq ?_ | refine c_cut0 ?_ | refine c_ops ?_ | refine i_nil ?_ | refine e_seq ?_ | refine e_block ?_ | refine c_block ?_ | refine c_skip ?_ | refine c_ret ?_ | refine c_exit ?_ | refine e_exit rfl ?_ | refine i_s0 rfl ?_ | refine c_leaf ?_ | refine i_gt rfl ?_ | refine i_gf rfl ?_ | refine i_gd rfl ?_ | refine c_t rfl ?_ | refine c_f rfl ?_ | refine i_conv rfl (by simp only [InR, List.length_map]; omega) ?_ | refine i_add rfl rfl (by simp only [InR, List.length_map]; omega) ?_ | refine i_sub rfl rfl (by simp only [InR, List.length_map]; omega) ?_ | refine i_ixm rfl rfl (by assumption) ?_ | refine i_iai rfl rfl (by omega) (by assumption) rfl ?_ | refine i_iam rfl rfl (by assumption) rfl ?_ | refine i_tk rfl rfl (by omega) ?_ | refine i_stb rfl ?_ | refine i_alloc rfl ?_ | refine i_box rfl rfl ?_ | refine i_nv rfl ?_)
  refine c_cond rfl (fun h => ?_) (fun h => ?_)
  · have hlt : k < plan.length := by simpa using h
    obtain ⟨x, hx⟩ := get_some hlt
    clear h
    repeat' (first | refine i_len rfl ?_ | refine i_s rfl ?_ | refine i_lenm rfl rfl rfl ?_ | refine c_seq ?_ | refine c_cut0 ?_ | refine c_ops ?_ | refine i_nil ?_ | refine e_seq ?_ | refine e_block ?_ | refine c_block ?_ | refine c_skip ?_ | refine c_ret ?_ | refine c_exit ?_ | refine e_exit rfl ?_ | refine i_s0 rfl ?_ | refine c_leaf ?_ | refine i_gt rfl ?_ | refine i_gf rfl ?_ | refine i_gd rfl ?_ | refine c_t rfl ?_ | refine c_f rfl ?_ | refine i_conv rfl (by simp only [InR, List.length_map]; omega) ?_ | refine i_add rfl rfl (by simp only [InR, List.length_map]; omega) ?_ | refine i_sub rfl rfl (by simp only [InR, List.length_map]; omega) ?_ | refine i_ixm rfl rfl (by assumption) ?_ | refine i_iai rfl rfl (by omega) (by assumption) rfl ?_ | refine i_iam rfl rfl (by assumption) rfl ?_ | refine i_tk rfl rfl (by omega) ?_ | refine i_stb rfl ?_ | refine i_alloc rfl ?_ | refine i_box rfl rfl ?_ | refine i_nv rfl ?_ | refine c_node ?_ ?_ | refine i_g rfl (fun h => ?_) (fun h => ?_) | refine c_cond rfl (fun h => ?_) (fun h => ?_) | refine i_f rfl rfl (f_R1_In _ _ _) rfl ?_ | refine i_f rfl rfl (f_R1_At _ _) rfl ?_)
    all_goals first
      | refine e_for hlt ?_ ⟨by repeat (first | exact trivial | refine ⟨rfl, ?_⟩), by repeat (first | exact trivial | refine ⟨rfl, ?_⟩), rfl⟩
        rw [take_succ_get hx, List.any_append, hi]
        simp only [List.any_cons, List.any_nil, Bool.or_false, Bool.false_or]
        unfold badStep; clear hi; grind
      | refine e_ret ⟨rfl, _, rfl, congr_ft ?_⟩
        rw [stepsF, if_neg h60, if_pos]
        exact List.any_eq_true.2 ⟨x, mem_get hx, by unfold badStep; clear hi; grind⟩
  · have hge : ¬ k < plan.length := by simpa using h
    rw [List.take_of_length_le (by omega)] at hi
    repeat' (first | refine i_len rfl ?_ | refine i_s rfl ?_ | refine i_lenm rfl rfl rfl ?_ | refine c_seq ?_ | refine c_cut0 ?_ | refine c_ops ?_ | refine i_nil ?_ | refine e_seq ?_ | refine e_block ?_ | refine c_block ?_ | refine c_skip ?_ | refine c_ret ?_ | refine c_exit ?_ | refine e_exit rfl ?_ | refine i_s0 rfl ?_ | refine c_leaf ?_ | refine i_gt rfl ?_ | refine i_gf rfl ?_ | refine i_gd rfl ?_ | refine c_t rfl ?_ | refine c_f rfl ?_ | refine i_conv rfl (by simp only [InR, List.length_map]; omega) ?_ | refine i_add rfl rfl (by simp only [InR, List.length_map]; omega) ?_ | refine i_sub rfl rfl (by simp only [InR, List.length_map]; omega) ?_ | refine i_ixm rfl rfl (by assumption) ?_ | refine i_iai rfl rfl (by omega) (by assumption) rfl ?_ | refine i_iam rfl rfl (by assumption) rfl ?_ | refine i_tk rfl rfl (by omega) ?_ | refine i_stb rfl ?_ | refine i_alloc rfl ?_ | refine i_box rfl rfl ?_ | refine i_nv rfl ?_ | refine c_node ?_ ?_ | refine i_g rfl (fun h => ?_) (fun h => ?_) | refine c_cond rfl (fun h => ?_) (fun h => ?_))
    exact e_ret ⟨rfl, _, rfl, congr_ft (by rw [stepsF, if_neg h60, hi, if_neg (by simp)]; rfl)⟩

def stFault (t : STask) (s : List Int) : Flt := if sFault t = okF then (if isSetB t.facts s = true then okF else ⟨5, -4⟩) else sFault t
def plFault (t : STask) (plan : List Int) : Flt := if sFault t = okF then stepsF t.ops.length plan else sFault t
theorem stFault_ok {t : STask} {s : List Int} (h : stFault t s = okF) : SV t ∧ IsSet t.facts s ∧ sFault t = okF := by
  unfold stFault at h
  split at h
  · rename_i h1
    split at h
    · rename_i h2; exact ⟨sFault_ok h1, isSet_of h2, h1⟩
    · cases h
  · rename_i h1; exact absurd h h1
theorem stFault_of {t : STask} {s : List Int} (h : SV t) (h2 : IsSet t.facts s) : stFault t s = okF := by
  unfold stFault; rw [if_pos (sFault_of h), if_pos (isSet_to h2)]
theorem stFault_iff (t : STask) (s : List Int) : (stFault t s).code = 0 ↔ stFault t s = okF := by
  unfold stFault
  split
  · split <;> simp [okF]
  · exact sFault_iff t
theorem plFault_ok {t : STask} {plan : List Int} (h : plFault t plan = okF) : SV t ∧ plan.length ≤ 60 ∧ (∀ x ∈ plan, 0 ≤ x ∧ x < t.ops.length) ∧ sFault t = okF := by
  unfold plFault at h
  split at h
  · rename_i h1
    obtain ⟨h2, h3⟩ := stepsF_ok h
    exact ⟨sFault_ok h1, h2, h3, h1⟩
  · rename_i h1; exact absurd h h1
theorem plFault_iff (t : STask) (plan : List Int) : (plFault t plan).code = 0 ↔ plFault t plan = okF := by
  unfold plFault
  split
  · exact stepsF_iff _ _
  · exact sFault_iff t
def c_strips_StateFault : Cmd :=
  (.seq
   (.ops [
   .op (some 2) none (.box 3008132 4 (.t 0)),
   .op (some 4) none (.alloc 3008258 (.agg [.int .i64 (0), .int .i64 (0)]))])
   (.cut
   (.seq
   (.seq
   (.ops [
   .op (some 6) none (.load true 4 (.t 2)),
   .op (some 7) none (.call .f (.c (.fn 27 [])) [.t 6]),
   .op (some 5) none (.alloc 3008322 (.agg [.int .i64 (0), .int .i64 (0)])),
   .op none none (.store 2 (.t 5) (.t 7))])
   (.cut
   (.seq
   (.ops [
   .op (some 8) none (.load true 2 (.t 5)),
   .op (some 9) none (.build [.int .i64 (0), .int .i64 (0)] []),
   .op (some 10) none (.bin .neq true [.i, .i] (.t 8) (.t 9))])
   (.cut
   (.cond (.t 10)
   (.seq
   (.ops [
   .op (some 11) none (.load true 2 (.t 5)),
   .op none none (.store 2 (.t 4) (.t 11))])
   .ret)
   .skip)))))
   (.cut
   (.seq
   (.seq
   (.ops [
   .op (some 12) none (.mov (.t 1)),
   .op (some 13) none (.faddr 0 (.t 2)),
   .op (some 14) none (.load false 1 (.t 13)),
   .op (some 15) none (.call .f (.c (.fn 45 [])) [.t 12, .t 14]),
   .op (some 16) none (.not (.t 15))])
   (.cut
   (.cond (.t 16)
   (.seq
   (.ops [
   .op (some 17) none (.build [.int .i64 (0), .int .i64 (0)] [(0, 1, .c (.int .i64 (5))), (1, 1, .c (.int .i64 (-4)))]),
   .op none none (.store 2 (.t 4) (.t 17))])
   .ret)
   .skip)))
   (.cut
   (.seq
   (.ops [
   .op (some 18) none (.build [.int .i64 (0), .int .i64 (0)] []),
   .op none none (.store 2 (.t 4) (.t 18))])
   .ret)))))))
def r_strips_StateFault : List RVar := [.cell true 2 4]
def n_strips_StateFault : Nat := 19
theorem k_strips_StateFault : chkFn Go.Proofs.Try.prog 47 n_strips_StateFault r_strips_StateFault c_strips_StateFault = true := by kernel_rfl
theorem f_strips_StateFault (t : STask) (ho : SkOk t) (s : List Int) (hs : s.length ≤ 140737488355328) : Fc Go.Proofs.Try.prog 47 [skV t, .sl .p (s.map i64V)] (ftV (stFault t s)) := by
  refine Fn.step mixed k_strips_StateFault ?_
  repeat' (first | refine i_len rfl ?_ | refine i_s rfl ?_ | refine i_lenm rfl rfl rfl ?_ | refine c_seq ?_ | refine c_cut0 ?_ | refine c_ops ?_ | refine i_nil ?_ | refine e_seq ?_ | refine e_block ?_ | refine c_block ?_ | refine c_skip ?_ | refine c_ret ?_ | refine c_exit ?_ | refine e_exit rfl ?_ | refine i_s0 rfl ?_ | refine c_leaf ?_ | refine i_gt rfl ?_ | refine i_gf rfl ?_ | refine i_gd rfl ?_ | refine c_t rfl ?_ | refine c_f rfl ?_ | refine i_conv rfl (by simp only [InR, List.length_map]; omega) ?_ | refine i_add rfl rfl (by simp only [InR, List.length_map]; omega) ?_ | refine i_sub rfl rfl (by simp only [InR, List.length_map]; omega) ?_ | refine i_ixm rfl rfl (by assumption) ?_ | refine i_iai rfl rfl (by omega) (by assumption) rfl ?_ | refine i_iam rfl rfl (by assumption) rfl ?_ | refine i_tk rfl rfl (by omega) ?_ | refine i_stb rfl ?_ | refine i_alloc rfl ?_ | refine i_box rfl rfl ?_ | refine i_nv rfl ?_ | refine c_node ?_ ?_ | refine i_g rfl (fun h => ?_) (fun h => ?_) | refine c_cond rfl (fun h => ?_) (fun h => ?_) | refine i_f rfl rfl (f_strips_Validate t ho) rfl ?_ | refine i_f rfl rfl (f_strips_IsSet s t.facts hs) rfl ?_)
  · exact e_ret ⟨rfl, _, rfl, congr_ft (by rw [stFault, if_neg (ne_ok h)])⟩
  all_goals refine e_ret ⟨rfl, _, rfl, congr_ft ?_⟩
  · rw [stFault, if_pos (eq_ok (by assumption)), if_neg (by simpa using h)]
  · rw [stFault, if_pos (eq_ok (by assumption)), if_pos (by simpa using h)]; rfl
def c_strips_PlanFault : Cmd :=
  (.seq
   (.ops [
   .op (some 2) none (.box 3200132 4 (.t 0)),
   .op (some 4) none (.alloc 3200258 (.agg [.int .i64 (0), .int .i64 (0)]))])
   (.cut
   (.seq
   (.seq
   (.ops [
   .op (some 6) none (.load true 4 (.t 2)),
   .op (some 7) none (.call .f (.c (.fn 27 [])) [.t 6]),
   .op (some 5) none (.alloc 3200322 (.agg [.int .i64 (0), .int .i64 (0)])),
   .op none none (.store 2 (.t 5) (.t 7))])
   (.cut
   (.seq
   (.ops [
   .op (some 8) none (.load true 2 (.t 5)),
   .op (some 9) none (.build [.int .i64 (0), .int .i64 (0)] []),
   .op (some 10) none (.bin .neq true [.i, .i] (.t 8) (.t 9))])
   (.cut
   (.cond (.t 10)
   (.seq
   (.ops [
   .op (some 11) none (.load true 2 (.t 5)),
   .op none none (.store 2 (.t 4) (.t 11))])
   .ret)
   .skip)))))
   (.cut
   (.seq
   (.ops [
   .op (some 12) none (.faddr 3 (.t 2)),
   .op (some 13) none (.load false 1 (.t 12)),
   .op (some 14) none (.len false (.t 13)),
   .op (some 15) none (.mov (.t 1)),
   .op (some 16) none (.call .f (.c (.fn 48 [])) [.t 14, .t 15]),
   .op none none (.store 2 (.t 4) (.t 16))])
   .ret)))))
def r_strips_PlanFault : List RVar := [.cell true 2 4]
def n_strips_PlanFault : Nat := 17
theorem k_strips_PlanFault : chkFn Go.Proofs.Try.prog 50 n_strips_PlanFault r_strips_PlanFault c_strips_PlanFault = true := by kernel_rfl
theorem f_strips_PlanFault (t : STask) (ho : SkOk t) (plan : List Int) (hl : plan.length ≤ 140737488355328) : Fc Go.Proofs.Try.prog 50 [skV t, .sl .p (plan.map i64V)] (ftV (plFault t plan)) := by
  have l5 := ho.o
  refine Fn.step mixed k_strips_PlanFault ?_
  repeat' (first | refine i_len rfl ?_ | refine i_s rfl ?_ | refine i_lenm rfl rfl rfl ?_ | refine c_seq ?_ | refine c_cut0 ?_ | refine c_ops ?_ | refine i_nil ?_ | refine e_seq ?_ | refine e_block ?_ | refine c_block ?_ | refine c_skip ?_ | refine c_ret ?_ | refine c_exit ?_ | refine e_exit rfl ?_ | refine i_s0 rfl ?_ | refine c_leaf ?_ | refine i_gt rfl ?_ | refine i_gf rfl ?_ | refine i_gd rfl ?_ | refine c_t rfl ?_ | refine c_f rfl ?_ | refine i_conv rfl (by simp only [InR, List.length_map]; omega) ?_ | refine i_add rfl rfl (by simp only [InR, List.length_map]; omega) ?_ | refine i_sub rfl rfl (by simp only [InR, List.length_map]; omega) ?_ | refine i_ixm rfl rfl (by assumption) ?_ | refine i_iai rfl rfl (by omega) (by assumption) rfl ?_ | refine i_iam rfl rfl (by assumption) rfl ?_ | refine i_tk rfl rfl (by omega) ?_ | refine i_stb rfl ?_ | refine i_alloc rfl ?_ | refine i_box rfl rfl ?_ | refine i_nv rfl ?_ | refine c_node ?_ ?_ | refine i_g rfl (fun h => ?_) (fun h => ?_) | refine c_cond rfl (fun h => ?_) (fun h => ?_) | refine i_f rfl rfl (f_strips_Validate t ho) rfl ?_ | refine i_f rfl rfl (f_strips_Steps t.ops.length plan hl) rfl ?_)
  · exact e_ret ⟨rfl, _, rfl, congr_ft (by rw [plFault, if_neg (ne_ok h)])⟩
  · exact e_ret ⟨rfl, _, rfl, congr_ft (by rw [plFault, if_pos (eq_ok h)])⟩
/-- A list whose first i elements are all smaller than what is still looked for. -/
def lowB (s part : List Int) (i k : Nat) : Prop := ∀ j x y, j < i → s[j]? = some x → k ≤ part.length → ∀ k', k ≤ k' → part[k']? = some y → x < y
def c_strips_Contains : Cmd :=
  (.seq
   (.ops [
   .op (some 4) none (.mov (.c (.bool false)))])
   (.cut
   (.seq
   (.ops [
   .op (some 5) none (.mov (.c (.int .i64 (0))))])
   (.cut
   (.seq
   (.seq
   (.ops [
   .op (some 8) none (.mov (.t 1)),
   .op (some 9) none (.len false (.t 8)),
   .op (some 10) none (.mov (.c (.int .i64 (0))))])
   (.cut
   (.block 0
   (.loop
   (.seq
   (.ops [
   .op (some 11) none (.bin .lss false [] (.t 10) (.t 9))])
   (.cut
   (.seq
   (.cond (.t 11)
   .skip
   (.exit 0))
   (.cut
   (.seq
   (.block 1
   (.seq
   (.ops [
   .op (some 12) none (.iaddr 1 (.t 8) (.t 10)),
   .op (some 13) none (.load false 1 (.t 12)),
   .op (some 7) none (.mov (.t 13))])
   (.cut
   (.seq
   (.block 2
   (.loop
   (.seq
   (.seq
   (.ops [
   .op (some 14) none (.mov (.t 5)),
   .op (some 15) none (.mov (.t 0)),
   .op (some 16) none (.len false (.t 15)),
   .op (some 17) none (.bin .lss false [] (.t 14) (.t 16)),
   .op (some 18) none (.mov (.t 17)),
   .op (some 19) (some (18, true)) (.mov (.t 0)),
   .op (some 20) (some (18, true)) (.mov (.t 5)),
   .op (some 21) (some (18, true)) (.iaddr 1 (.t 19) (.t 20)),
   .op (some 22) (some (18, true)) (.load false 1 (.t 21)),
   .op (some 23) (some (18, true)) (.mov (.t 7)),
   .op (some 24) (some (18, true)) (.bin .lss false [] (.t 22) (.t 23)),
   .op (some 25) none (.pick (.t 18) (.t 24) (.c (.bool false)))])
   (.cut
   (.cond (.t 25)
   .skip
   (.exit 2))))
   (.cut
   (.block 3
   (.ops [
   .op (some 26) none (.mov (.t 5)),
   .op (some 27) none (.bin .add false [] (.t 26) (.c (.int .i64 (1)))),
   .op (some 5) none (.mov (.t 27))]))))))
   (.cut
   (.seq
   (.ops [
   .op (some 28) none (.mov (.t 5)),
   .op (some 29) none (.mov (.t 0)),
   .op (some 30) none (.len false (.t 29)),
   .op (some 31) none (.bin .eql false [.i] (.t 28) (.t 30)),
   .op (some 32) none (.mov (.t 31)),
   .op (some 33) (some (32, false)) (.mov (.t 0)),
   .op (some 34) (some (32, false)) (.mov (.t 5)),
   .op (some 35) (some (32, false)) (.iaddr 1 (.t 33) (.t 34)),
   .op (some 36) (some (32, false)) (.load false 1 (.t 35)),
   .op (some 37) (some (32, false)) (.mov (.t 7)),
   .op (some 38) (some (32, false)) (.bin .neq false [.i] (.t 36) (.t 37)),
   .op (some 39) none (.pick (.t 32) (.c (.bool true)) (.t 38))])
   (.cut
   (.cond (.t 39)
   (.seq
   (.ops [
   .op (some 4) none (.mov (.c (.bool false)))])
   .ret)
   .skip))))))))
   (.cut
   (.ops [
   .op (some 40) none (.bin .add false [] (.t 10) (.c (.int .i64 (1)))),
   .op (some 10) none (.mov (.t 40))])))))))))))
   (.cut
   (.seq
   (.ops [
   .op (some 4) none (.mov (.c (.bool true)))])
   .ret)))))))
def r_strips_Contains : List RVar := [.tmp 4]
def n_strips_Contains : Nat := 41
theorem k_strips_Contains : chkFn Go.Proofs.Try.prog 59 n_strips_Contains r_strips_Contains c_strips_Contains = true := by kernel_rfl
theorem f_strips_Contains (s part : List Int) (hl : s.length ≤ 140737488355328) (hl2 : part.length ≤ 140737488355328) (hs : SS s) (hp : SS part) : Fc Go.Proofs.Try.prog 59 [.sl .p (s.map i64V), .sl .p (part.map i64V)] (.bool (inclB part s)) := by
  refine Fn.step mixed k_strips_Contains ?_
  repeat' (first | refine i_len rfl ?_ | refine i_s rfl ?_ | refine i_lenm rfl rfl rfl ?_ | refine c_seq ?_ | refine c_cut0 ?_ | refine c_ops ?_ | refine i_nil ?_ | refine e_seq ?_ | refine e_block ?_ | refine c_block ?_ | refine c_skip ?_ | refine c_ret ?_ | refine c_exit ?_ | refine e_exit rfl ?_ | refine i_s0 rfl ?_ | refine c_leaf ?_ | refine i_gt rfl ?_ | refine i_gf rfl ?_ | refine i_gd rfl ?_ | refine c_t rfl ?_ | refine c_f rfl ?_ | refine i_conv rfl (by simp only [InR, List.length_map]; omega) ?_ | refine i_add rfl rfl (by simp only [InR, List.length_map]; omega) ?_ | refine i_sub rfl rfl (by simp only [InR, List.length_map]; omega) ?_ | refine i_ixm rfl rfl (by assumption) ?_ | refine i_iai rfl rfl (by omega) (by assumption) rfl ?_ | refine i_iam rfl rfl (by assumption) rfl ?_ | refine i_tk rfl rfl (by omega) ?_ | refine i_stb rfl ?_ | refine i_alloc rfl ?_ | refine i_box rfl rfl ?_ | refine i_nv rfl ?_ | refine c_node ?_ ?_ | refine i_g rfl (fun h => ?_) (fun h => ?_) | refine c_cond rfl (fun h => ?_) (fun h => ?_))
  refine c_lp (ι := Nat × Nat) (fun p => [(0, .sl .p (s.map i64V)), (5, .int .i64 p.2), (8, .sl .p (part.map i64V)), (9, .int .i64 part.length), (10, .int .i64 p.1)]) (fun _ => [])
    (fun p => p.1 ≤ part.length ∧ p.2 ≤ s.length ∧ (∀ j, j < p.1 → ∀ y, part[j]? = some y → y ∈ s) ∧ (∀ j x, j < p.2 → s[j]? = some x → ∀ k' y, p.1 ≤ k' → part[k']? = some y → x < y)) (fun p => part.length - p.1) (0, 0) ⟨Nat.zero_le _, Nat.zero_le _, all_zero, fun j x h => by omega⟩ ⟨by repeat (first | exact trivial | refine ⟨rfl, ?_⟩), by repeat (first | exact trivial | refine ⟨rfl, ?_⟩), rfl⟩ fun p hi => ?_
  obtain ⟨k, i⟩ := p
  obtain ⟨h1, h2, h3, h4⟩ := hi
  simp only at h1 h2 h3 h4
  repeat (first | refine i_len rfl ?_ | refine i_s rfl ?_ | refine i_lenm rfl rfl rfl ?_ | refine c_seq ?_ | refine c_cut0 ?_ | refine c_ops ?_ | refine i_nil ?_ | refine e_seq ?_ | refine e_block ?_ | refine c_block ?_ | refine c_skip ?_ | refine c_ret ?_ | refine c_exit ?_ | refine e_exit rfl ?_ | refine i_s0 rfl ?_ | refine c_leaf ?_ | refine i_gt rfl ?_ | refine i_gf rfl ?_ | refine i_gd rfl ?_ | refine c_t rfl ?_ | refine c_f rfl ?_ | refine i_conv rfl (by simp only [InR, List.length_map]; omega) ?_ | refine i_add rfl rfl (by simp only [InR, List.length_map]; omega) ?_ | refine i_sub rfl rfl (by simp only [InR, List.length_map]; omega) ?_ | refine i_ixm rfl rfl (by assumption) ?_ | refine i_iai rfl rfl (by omega) (by assumption) rfl ?_ | refine i_iam rfl rfl (by assumption) rfl ?_ | refine i_tk rfl rfl (by omega) ?_ | refine i_stb rfl ?_ | refine i_alloc rfl ?_ | refine i_box rfl rfl ?_ | refine i_nv rfl ?_)
  refine c_cond rfl (fun h => ?_) (fun h => ?_)
  · have hlt : k < part.length := by simpa using h
    obtain ⟨y, hy⟩ := get_some hlt
    clear h
    repeat (first | refine i_len rfl ?_ | refine i_s rfl ?_ | refine i_lenm rfl rfl rfl ?_ | refine c_seq ?_ | refine c_cut0 ?_ | refine c_ops ?_ | refine i_nil ?_ | refine e_seq ?_ | refine e_block ?_ | refine c_block ?_ | refine c_skip ?_ | refine c_ret ?_ | refine c_exit ?_ | refine e_exit rfl ?_ | refine i_s0 rfl ?_ | refine c_leaf ?_ | refine i_gt rfl ?_ | refine i_gf rfl ?_ | refine i_gd rfl ?_ | refine c_t rfl ?_ | refine c_f rfl ?_ | refine i_conv rfl (by simp only [InR, List.length_map]; omega) ?_ | refine i_add rfl rfl (by simp only [InR, List.length_map]; omega) ?_ | refine i_sub rfl rfl (by simp only [InR, List.length_map]; omega) ?_ | refine i_ixm rfl rfl (by assumption) ?_ | refine i_iai rfl rfl (by omega) (by assumption) rfl ?_ | refine i_iam rfl rfl (by assumption) rfl ?_ | refine i_tk rfl rfl (by omega) ?_ | refine i_stb rfl ?_ | refine i_alloc rfl ?_ | refine i_box rfl rfl ?_ | refine i_nv rfl ?_)
    refine c_lp (ι := Nat) (fun i => [(0, .sl .p (s.map i64V)), (5, .int .i64 i), (7, .int .i64 y), (8, .sl .p (part.map i64V)), (9, .int .i64 part.length), (10, .int .i64 k)]) (fun _ => [])
      (fun i => i ≤ s.length ∧ (∀ j x, j < i → s[j]? = some x → ∀ k' y, k ≤ k' → part[k']? = some y → x < y)) (fun i => s.length - i) i ⟨h2, h4⟩ ⟨by repeat (first | exact trivial | refine ⟨rfl, ?_⟩), by repeat (first | exact trivial | refine ⟨rfl, ?_⟩), rfl⟩ fun i hi => ?_
    clear h2 h4
    obtain ⟨h2, h4⟩ := hi
    by_cases hil : i < s.length
    · obtain ⟨x, hx⟩ := get_some hil
      have hil' : (i : Int) < s.length := by omega
      by_cases hxy : x < y
      · repeat' (first | refine i_len rfl ?_ | refine i_s rfl ?_ | refine i_lenm rfl rfl rfl ?_ | refine c_seq ?_ | refine c_cut0 ?_ | refine c_ops ?_ | refine i_nil ?_ | refine e_seq ?_ | refine e_block ?_ | refine c_block ?_ | refine c_skip ?_ | refine c_ret ?_ | refine c_exit ?_ | refine e_exit rfl ?_ | refine i_s0 rfl ?_ | refine c_leaf ?_ | refine i_gt rfl ?_ | refine i_gf rfl ?_ | refine i_gd rfl ?_ | refine c_t rfl ?_ | refine c_f rfl ?_ | refine i_conv rfl (by simp only [InR, List.length_map]; omega) ?_ | refine i_add rfl rfl (by simp only [InR, List.length_map]; omega) ?_ | refine i_sub rfl rfl (by simp only [InR, List.length_map]; omega) ?_ | refine i_ixm rfl rfl (by assumption) ?_ | refine i_iai rfl rfl (by omega) (by assumption) rfl ?_ | refine i_iam rfl rfl (by assumption) rfl ?_ | refine i_tk rfl rfl (by omega) ?_ | refine i_stb rfl ?_ | refine i_alloc rfl ?_ | refine i_box rfl rfl ?_ | refine i_nv rfl ?_ | refine c_node ?_ ?_ | refine i_g rfl (fun h => ?_) (fun h => ?_) | refine c_cond rfl (fun h => ?_) (fun h => ?_))
        all_goals first
          | (refine e_lp (i + 1) ⟨by omega, fun j x' hj hx' k' y' hk' hy' => ?_⟩ (by omega) ⟨by repeat (first | exact trivial | refine ⟨rfl, ?_⟩), by repeat (first | exact trivial | refine ⟨rfl, ?_⟩), rfl⟩
             by_cases e : j = i
             · subst e
               rw [hx] at hx'; cases hx'
               by_cases e2 : k' = k
               · subst e2; rw [hy] at hy'; cases hy'; exact hxy
               · have := ss_idx hp hy hy' (by omega); omega
             · exact h4 j x' (by omega) hx' k' y' hk' hy')
          | (exfalso; clear h3 h4 hs hp; simp at *; omega)
      · by_cases e : x = y
        · subst e
          repeat' (first | refine i_len rfl ?_ | refine i_s rfl ?_ | refine i_lenm rfl rfl rfl ?_ | refine c_seq ?_ | refine c_cut0 ?_ | refine c_ops ?_ | refine i_nil ?_ | refine e_seq ?_ | refine e_block ?_ | refine c_block ?_ | refine c_skip ?_ | refine c_ret ?_ | refine c_exit ?_ | refine e_exit rfl ?_ | refine i_s0 rfl ?_ | refine c_leaf ?_ | refine i_gt rfl ?_ | refine i_gf rfl ?_ | refine i_gd rfl ?_ | refine c_t rfl ?_ | refine c_f rfl ?_ | refine i_conv rfl (by simp only [InR, List.length_map]; omega) ?_ | refine i_add rfl rfl (by simp only [InR, List.length_map]; omega) ?_ | refine i_sub rfl rfl (by simp only [InR, List.length_map]; omega) ?_ | refine i_ixm rfl rfl (by assumption) ?_ | refine i_iai rfl rfl (by omega) (by assumption) rfl ?_ | refine i_iam rfl rfl (by assumption) rfl ?_ | refine i_tk rfl rfl (by omega) ?_ | refine i_stb rfl ?_ | refine i_alloc rfl ?_ | refine i_box rfl rfl ?_ | refine i_nv rfl ?_ | refine c_node ?_ ?_ | refine i_g rfl (fun h => ?_) (fun h => ?_) | refine c_cond rfl (fun h => ?_) (fun h => ?_))
          all_goals first
            | (refine e_lp (k + 1, i) ⟨by simp only; omega, h2, ?_, fun j x' hj hx' k' y' hk' hy' => h4 j x' hj hx' k' y' (by simp only at hk'; omega) hy'⟩ (by simp only; omega) ⟨by repeat (first | exact trivial | refine ⟨rfl, ?_⟩), by repeat (first | exact trivial | refine ⟨rfl, ?_⟩), rfl⟩
               intro j hj y' hy'
               by_cases e2 : j = k
               · subst e2; rw [hy] at hy'; cases hy'; exact mem_get hx
               · exact h3 j (by simp only at hj; omega) y' hy')
            | (exfalso; clear h3 h4 hs hp; simp at *; omega)
            | (exfalso; clear h3 h4 hs hp; simp at *; done)
        · have hnm : y ∉ s := fun hm => by
            obtain ⟨j, hj, e2⟩ := List.getElem_of_mem hm
            have hg : s[j]? = some y := by rw [← e2]; exact List.getElem?_eq_getElem hj
            by_cases c : j < i
            · have := h4 j y c hg k y (Nat.le_refl _) hy; omega
            · by_cases c2 : j = i
              · subst c2; rw [hx] at hg; cases hg; exact e rfl
              · have := ss_idx hs hx hg (by omega); omega
          repeat' (first | refine i_len rfl ?_ | refine i_s rfl ?_ | refine i_lenm rfl rfl rfl ?_ | refine c_seq ?_ | refine c_cut0 ?_ | refine c_ops ?_ | refine i_nil ?_ | refine e_seq ?_ | refine e_block ?_ | refine c_block ?_ | refine c_skip ?_ | refine c_ret ?_ | refine c_exit ?_ | refine e_exit rfl ?_ | refine i_s0 rfl ?_ | refine c_leaf ?_ | refine i_gt rfl ?_ | refine i_gf rfl ?_ | refine i_gd rfl ?_ | refine c_t rfl ?_ | refine c_f rfl ?_ | refine i_conv rfl (by simp only [InR, List.length_map]; omega) ?_ | refine i_add rfl rfl (by simp only [InR, List.length_map]; omega) ?_ | refine i_sub rfl rfl (by simp only [InR, List.length_map]; omega) ?_ | refine i_ixm rfl rfl (by assumption) ?_ | refine i_iai rfl rfl (by omega) (by assumption) rfl ?_ | refine i_iam rfl rfl (by assumption) rfl ?_ | refine i_tk rfl rfl (by omega) ?_ | refine i_stb rfl ?_ | refine i_alloc rfl ?_ | refine i_box rfl rfl ?_ | refine i_nv rfl ?_ | refine c_node ?_ ?_ | refine i_g rfl (fun h => ?_) (fun h => ?_) | refine c_cond rfl (fun h => ?_) (fun h => ?_))
          all_goals first
            | (refine e_ret ⟨rfl, _, rfl, congrArg V.bool ?_⟩
               unfold inclB
               rw [List.all_eq_false]
               exact ⟨y, mem_get hy, by simpa using hnm⟩)
            | (exfalso; clear h3 h4 hs hp hnm; simp at *; omega)
            | (exfalso; clear h3 h4 hs hp hnm; simp at *; done)
    · have hnm : y ∉ s := fun hm => by
        obtain ⟨j, hj, e2⟩ := List.getElem_of_mem hm
        have hg : s[j]? = some y := by rw [← e2]; exact List.getElem?_eq_getElem hj
        have := h4 j y (by omega) hg k y (Nat.le_refl _) hy
        omega
      have hie : i = s.length := by omega
      repeat' (first | refine i_len rfl ?_ | refine i_s rfl ?_ | refine i_lenm rfl rfl rfl ?_ | refine c_seq ?_ | refine c_cut0 ?_ | refine c_ops ?_ | refine i_nil ?_ | refine e_seq ?_ | refine e_block ?_ | refine c_block ?_ | refine c_skip ?_ | refine c_ret ?_ | refine c_exit ?_ | refine e_exit rfl ?_ | refine i_s0 rfl ?_ | refine c_leaf ?_ | refine i_gt rfl ?_ | refine i_gf rfl ?_ | refine i_gd rfl ?_ | refine c_t rfl ?_ | refine c_f rfl ?_ | refine i_conv rfl (by simp only [InR, List.length_map]; omega) ?_ | refine i_add rfl rfl (by simp only [InR, List.length_map]; omega) ?_ | refine i_sub rfl rfl (by simp only [InR, List.length_map]; omega) ?_ | refine i_ixm rfl rfl (by assumption) ?_ | refine i_iai rfl rfl (by omega) (by assumption) rfl ?_ | refine i_iam rfl rfl (by assumption) rfl ?_ | refine i_tk rfl rfl (by omega) ?_ | refine i_stb rfl ?_ | refine i_alloc rfl ?_ | refine i_box rfl rfl ?_ | refine i_nv rfl ?_ | refine c_node ?_ ?_ | refine i_g rfl (fun h => ?_) (fun h => ?_) | refine c_cond rfl (fun h => ?_) (fun h => ?_))
      all_goals first
        | (refine e_ret ⟨rfl, _, rfl, congrArg V.bool ?_⟩
           unfold inclB
           rw [List.all_eq_false]
           exact ⟨y, mem_get hy, by simpa using hnm⟩)
        | (exfalso; clear h3 h4 hs hp hnm; simp at *; omega)
        | (exfalso; clear h3 h4 hs hp hnm; simp at *; done)
  · have hge : ¬ k < part.length := by simpa using h
    repeat' (first | refine i_len rfl ?_ | refine i_s rfl ?_ | refine i_lenm rfl rfl rfl ?_ | refine c_seq ?_ | refine c_cut0 ?_ | refine c_ops ?_ | refine i_nil ?_ | refine e_seq ?_ | refine e_block ?_ | refine c_block ?_ | refine c_skip ?_ | refine c_ret ?_ | refine c_exit ?_ | refine e_exit rfl ?_ | refine i_s0 rfl ?_ | refine c_leaf ?_ | refine i_gt rfl ?_ | refine i_gf rfl ?_ | refine i_gd rfl ?_ | refine c_t rfl ?_ | refine c_f rfl ?_ | refine i_conv rfl (by simp only [InR, List.length_map]; omega) ?_ | refine i_add rfl rfl (by simp only [InR, List.length_map]; omega) ?_ | refine i_sub rfl rfl (by simp only [InR, List.length_map]; omega) ?_ | refine i_ixm rfl rfl (by assumption) ?_ | refine i_iai rfl rfl (by omega) (by assumption) rfl ?_ | refine i_iam rfl rfl (by assumption) rfl ?_ | refine i_tk rfl rfl (by omega) ?_ | refine i_stb rfl ?_ | refine i_alloc rfl ?_ | refine i_box rfl rfl ?_ | refine i_nv rfl ?_ | refine c_node ?_ ?_ | refine i_g rfl (fun h => ?_) (fun h => ?_) | refine c_cond rfl (fun h => ?_) (fun h => ?_))
    refine e_ret ⟨rfl, _, rfl, congrArg V.bool ?_⟩
    unfold inclB
    rw [List.all_eq_true]
    intro y hy
    obtain ⟨j, hj, e⟩ := List.getElem_of_mem hy
    exact decide_eq_true (h3 j (by omega) y (by rw [← e]; exact List.getElem?_eq_getElem hj))
end Hm
end

section
/- Contracts: states after operators. -/
namespace Hm
open Go
set_option maxRecDepth 100000
set_option maxHeartbeats 2000000
set_option linter.unusedSimpArgs false
set_option linter.unusedVariables false
theorem dd_get {l : List Int} {m i : Nat} (hi : (ddK l m).length ≤ i) : (ddK l m ++ l.drop (ddK l m).length)[i]? = l[i]? := by
  rw [List.getElem?_append_right hi, List.getElem?_drop]
  congr 1
  omega
theorem dd_set {l : List Int} {m : Nat} {x : Int} (hd : (ddK l m).length < l.length) : (ddK l m ++ l.drop (ddK l m).length).set (ddK l m).length x = (ddK l m ++ [x]) ++ l.drop (ddK l m ++ [x]).length := by
  rw [List.set_append_right _ _ (Nat.le_refl _), Nat.sub_self]
  have : l.drop (ddK l m).length = l[(ddK l m).length] :: l.drop ((ddK l m).length + 1) := List.drop_eq_getElem_cons hd
  rw [this, List.set_cons_zero]
  simp
def c_slices_Compact_int : Cmd :=
  (.seq
   (.ops [
   .op (some 2) none (.mov (.c (.sl .nil [])))])
   (.cut
   (.seq
   (.seq
   (.ops [
   .op (some 6) none (.mov (.t 0)),
   .op (some 7) none (.len false (.t 6)),
   .op (some 8) none (.bin .lss false [] (.t 7) (.c (.int .i64 (2))))])
   (.cut
   (.cond (.t 8)
   (.seq
   (.ops [
   .op (some 9) none (.mov (.t 0)),
   .op (some 2) none (.mov (.t 9))])
   .ret)
   .skip)))
   (.cut
   (.seq
   (.seq
   (.ops [
   .op (some 3) none (.mov (.c (.int .i64 (1))))])
   (.cut
   (.block 0
   (.loop
   (.seq
   (.seq
   (.ops [
   .op (some 10) none (.mov (.t 3)),
   .op (some 11) none (.mov (.t 0)),
   .op (some 12) none (.len false (.t 11)),
   .op (some 13) none (.bin .lss false [] (.t 10) (.t 12))])
   (.cut
   (.cond (.t 13)
   .skip
   (.exit 0))))
   (.cut
   (.seq
   (.block 1
   (.seq
   (.ops [
   .op (some 16) none (.mov (.t 0)),
   .op (some 17) none (.mov (.t 3)),
   .op (some 18) none (.iaddr 1 (.t 16) (.t 17)),
   .op (some 19) none (.load false 1 (.t 18)),
   .op (some 20) none (.mov (.t 0)),
   .op (some 21) none (.mov (.t 3)),
   .op (some 22) none (.bin .sub false [] (.t 21) (.c (.int .i64 (1)))),
   .op (some 23) none (.iaddr 1 (.t 20) (.t 22)),
   .op (some 24) none (.load false 1 (.t 23)),
   .op (some 25) none (.bin .eql false [.i] (.t 19) (.t 24))])
   (.cut
   (.cond (.t 25)
   (.seq
   (.ops [
   .op (some 26) none (.mov (.t 0)),
   .op (some 27) none (.mov (.t 3)),
   .op (some 28) none (.slice false 1 (.t 26) (some (.t 27)) none),
   .op (some 4) none (.mov (.t 28))])
   (.cut
   (.seq
   (.seq
   (.ops [
   .op (some 5) none (.mov (.c (.int .i64 (1))))])
   (.cut
   (.block 2
   (.loop
   (.seq
   (.seq
   (.ops [
   .op (some 29) none (.mov (.t 5)),
   .op (some 30) none (.mov (.t 4)),
   .op (some 31) none (.len false (.t 30)),
   .op (some 32) none (.bin .lss false [] (.t 29) (.t 31))])
   (.cut
   (.cond (.t 32)
   .skip
   (.exit 2))))
   (.cut
   (.seq
   (.block 3
   (.seq
   (.ops [
   .op (some 35) none (.mov (.t 4)),
   .op (some 36) none (.mov (.t 5)),
   .op (some 37) none (.iaddr 1 (.t 35) (.t 36)),
   .op (some 38) none (.load false 1 (.t 37)),
   .op (some 39) none (.mov (.t 4)),
   .op (some 40) none (.mov (.t 5)),
   .op (some 41) none (.bin .sub false [] (.t 40) (.c (.int .i64 (1)))),
   .op (some 42) none (.iaddr 1 (.t 39) (.t 41)),
   .op (some 43) none (.load false 1 (.t 42)),
   .op (some 44) none (.bin .neq false [.i] (.t 38) (.t 43))])
   (.cut
   (.cond (.t 44)
   (.seq
   (.ops [
   .op (some 45) none (.mov (.t 0)),
   .op (some 46) none (.mov (.t 3)),
   .op (some 47) none (.mov (.t 4)),
   .op (some 48) none (.mov (.t 5)),
   .op (some 49) none (.iaddr 1 (.t 47) (.t 48)),
   .op (some 50) none (.load false 1 (.t 49)),
   .op (some 51) none (.iaddr 1 (.t 45) (.t 46)),
   .op none none (.store 1 (.t 51) (.t 50))])
   (.cut
   (.ops [
   .op (some 52) none (.mov (.t 3)),
   .op (some 53) none (.bin .add false [] (.t 52) (.c (.int .i64 (1)))),
   .op (some 3) none (.mov (.t 53))])))
   .skip))))
   (.cut
   (.ops [
   .op (some 33) none (.mov (.t 5)),
   .op (some 34) none (.bin .add false [] (.t 33) (.c (.int .i64 (1)))),
   .op (some 5) none (.mov (.t 34))])))))))))
   (.cut
   (.seq
   (.ops [
   .op (some 54) none (.mov (.t 0)),
   .op (some 55) none (.mov (.t 3)),
   .op (some 56) none (.slice false 1 (.t 54) (some (.t 55)) none),
   .op none none (.clear 1 8 (.int .i64 (0)) (.t 56))])
   (.cut
   (.seq
   (.ops [
   .op (some 57) none (.mov (.t 0)),
   .op (some 58) none (.mov (.t 3)),
   .op (some 59) none (.slice false 1 (.t 57) none (some (.t 58))),
   .op (some 2) none (.mov (.t 59))])
   .ret)))))))
   .skip))))
   (.cut
   (.ops [
   .op (some 14) none (.mov (.t 3)),
   .op (some 15) none (.bin .add false [] (.t 14) (.c (.int .i64 (1)))),
   .op (some 3) none (.mov (.t 15))])))))))))
   (.cut
   (.seq
   (.ops [
   .op (some 60) none (.mov (.t 0)),
   .op (some 2) none (.mov (.t 60))])
   .ret)))))))
def r_slices_Compact_int : List RVar := [.tmp 2]
def n_slices_Compact_int : Nat := 61
theorem k_slices_Compact_int : chkFn Go.Proofs.Try.prog 67 n_slices_Compact_int r_slices_Compact_int c_slices_Compact_int = true := by kernel_rfl
theorem c_Compact {G : Type} {H : HT G} (gen : Nat) (l : List Int) (hl : l.length ≤ 17592186044416) (σ : Store) (g : G) (hσ : σ 4032449 = .arr gen (l.map i64V)) (hp : ∀ nm, σ nm ≠ .unused → nm ∈ [4032449]) :
    Cc Go.Proofs.Try.prog H 67 [.msl 4032449 gen 0 l.length] [4032449] σ g fun v σ' g' => (∃ rows, v = .msl 4032449 gen 0 (compL l).length ∧ σ' = stOf [(4032449, .arr gen rows)] ∧ rows.take (compL l).length = (compL l).map i64V) ∧ g' = g := by
  refine CT.step _ mixed k_slices_Compact_int hp fun hM => ?_
  refine c_seq ?_
  refine c_ops ?_
  refine i_s rfl ?_
  refine i_nil ?_
  refine e_seq ?_
  refine c_cut [(0, .msl 4032449 gen 0 l.length)] [(4032449, .arr gen (l.map i64V))] ⟨⟨rfl, trivial⟩, ⟨hσ, trivial⟩, rfl⟩ ?_
  have fin : compL l = l → ∃ rows, V.msl 4032449 gen 0 l.length = .msl 4032449 gen 0 (compL l).length ∧ stOf [(4032449, .arr gen (l.map i64V))] = stOf [(4032449, .arr gen rows)] ∧ rows.take (compL l).length = (compL l).map i64V := fun e => ⟨l.map i64V, by rw [e], rfl, by rw [e, List.take_of_length_le (by simp)]⟩
  repeat (first | refine i_len rfl ?_ | refine i_s rfl ?_ | refine i_lenm rfl rfl rfl ?_ | refine c_seq ?_ | refine c_cut0 ?_ | refine c_ops ?_ | refine i_nil ?_ | refine e_seq ?_ | refine e_block ?_ | refine c_block ?_ | refine c_skip ?_ | refine c_ret ?_ | refine c_exit ?_ | refine e_exit rfl ?_ | refine i_s0 rfl ?_ | refine c_leaf ?_ | refine i_gt rfl ?_ | refine i_gf rfl ?_ | refine i_gd rfl ?_ | refine c_t rfl ?_ | refine c_f rfl ?_ | refine i_conv rfl (by simp only [InR, List.length_map]; omega) ?_ | refine i_add rfl rfl (by simp only [InR, List.length_map]; omega) ?_ | refine i_sub rfl rfl (by simp only [InR, List.length_map]; omega) ?_ | refine i_ixm rfl rfl (by assumption) ?_ | refine i_iai rfl rfl (by omega) (by assumption) rfl ?_ | refine i_iam rfl rfl (by assumption) rfl ?_ | refine i_tk rfl rfl (by omega) ?_ | refine i_stb rfl ?_ | refine i_alloc rfl ?_ | refine i_box rfl rfl ?_ | refine i_nv rfl ?_)
  refine c_cond rfl (fun h => ?_) (fun h => ?_)
  · have h2 : l.length < 2 := by have : (l.length : Int) < 2 := by simpa using h
                                 omega
    repeat (first | refine i_len rfl ?_ | refine i_s rfl ?_ | refine i_lenm rfl rfl rfl ?_ | refine c_seq ?_ | refine c_cut0 ?_ | refine c_ops ?_ | refine i_nil ?_ | refine e_seq ?_ | refine e_block ?_ | refine c_block ?_ | refine c_skip ?_ | refine c_ret ?_ | refine c_exit ?_ | refine e_exit rfl ?_ | refine i_s0 rfl ?_ | refine c_leaf ?_ | refine i_gt rfl ?_ | refine i_gf rfl ?_ | refine i_gd rfl ?_ | refine c_t rfl ?_ | refine c_f rfl ?_ | refine i_conv rfl (by simp only [InR, List.length_map]; omega) ?_ | refine i_add rfl rfl (by simp only [InR, List.length_map]; omega) ?_ | refine i_sub rfl rfl (by simp only [InR, List.length_map]; omega) ?_ | refine i_ixm rfl rfl (by assumption) ?_ | refine i_iai rfl rfl (by omega) (by assumption) rfl ?_ | refine i_iam rfl rfl (by assumption) rfl ?_ | refine i_tk rfl rfl (by omega) ?_ | refine i_stb rfl ?_ | refine i_alloc rfl ?_ | refine i_box rfl rfl ?_ | refine i_nv rfl ?_)
    refine e_ret ⟨rfl, _, rfl, rfl, rfl, ?_, rfl⟩
    rw [restr_stOf]
    exact fin (by unfold compL; rw [ddK_all _ (Nat.le_refl _) fun j h1 h3 => by omega, List.take_length])
  have h2 : 2 ≤ l.length := by have : ¬ (l.length : Int) < 2 := by simpa using h
                               omega
  clear h
  repeat (first | refine i_len rfl ?_ | refine i_s rfl ?_ | refine i_lenm rfl rfl rfl ?_ | refine c_seq ?_ | refine c_cut0 ?_ | refine c_ops ?_ | refine i_nil ?_ | refine e_seq ?_ | refine e_block ?_ | refine c_block ?_ | refine c_skip ?_ | refine c_ret ?_ | refine c_exit ?_ | refine e_exit rfl ?_ | refine i_s0 rfl ?_ | refine c_leaf ?_ | refine i_gt rfl ?_ | refine i_gf rfl ?_ | refine i_gd rfl ?_ | refine c_t rfl ?_ | refine c_f rfl ?_ | refine i_conv rfl (by simp only [InR, List.length_map]; omega) ?_ | refine i_add rfl rfl (by simp only [InR, List.length_map]; omega) ?_ | refine i_sub rfl rfl (by simp only [InR, List.length_map]; omega) ?_ | refine i_ixm rfl rfl (by assumption) ?_ | refine i_iai rfl rfl (by omega) (by assumption) rfl ?_ | refine i_iam rfl rfl (by assumption) rfl ?_ | refine i_tk rfl rfl (by omega) ?_ | refine i_stb rfl ?_ | refine i_alloc rfl ?_ | refine i_box rfl rfl ?_ | refine i_nv rfl ?_)
  refine c_lp (ι := Nat) (fun k => [(0, .msl 4032449 gen 0 l.length), (3, .int .i64 k)]) (fun _ => [(4032449, .arr gen (l.map i64V))]) (fun k => 1 ≤ k ∧ k ≤ l.length ∧ ∀ j, 0 < j → j < k → l[j]? ≠ l[j - 1]?) (fun k => l.length - k) 1 ⟨Nat.le_refl _, by omega, fun j h1 h2 => by omega⟩ ⟨by repeat (first | exact trivial | refine ⟨rfl, ?_⟩), by repeat (first | exact trivial | refine ⟨rfl, ?_⟩), rfl⟩ fun k hi => ?_
  obtain ⟨k1, k2, k3⟩ := hi
  repeat (first | refine i_len rfl ?_ | refine i_s rfl ?_ | refine i_lenm rfl rfl rfl ?_ | refine c_seq ?_ | refine c_cut0 ?_ | refine c_ops ?_ | refine i_nil ?_ | refine e_seq ?_ | refine e_block ?_ | refine c_block ?_ | refine c_skip ?_ | refine c_ret ?_ | refine c_exit ?_ | refine e_exit rfl ?_ | refine i_s0 rfl ?_ | refine c_leaf ?_ | refine i_gt rfl ?_ | refine i_gf rfl ?_ | refine i_gd rfl ?_ | refine c_t rfl ?_ | refine c_f rfl ?_ | refine i_conv rfl (by simp only [InR, List.length_map]; omega) ?_ | refine i_add rfl rfl (by simp only [InR, List.length_map]; omega) ?_ | refine i_sub rfl rfl (by simp only [InR, List.length_map]; omega) ?_ | refine i_ixm rfl rfl (by assumption) ?_ | refine i_iai rfl rfl (by omega) (by assumption) rfl ?_ | refine i_iam rfl rfl (by assumption) rfl ?_ | refine i_tk rfl rfl (by omega) ?_ | refine i_stb rfl ?_ | refine i_alloc rfl ?_ | refine i_box rfl rfl ?_ | refine i_nv rfl ?_)
  refine c_cond rfl (fun h => ?_) (fun h => ?_)
  · have hlt : k < l.length := by have : (k : Int) < l.length := by simpa using h
                                  omega
    obtain ⟨x, hx⟩ := get_some hlt
    obtain ⟨y, hy⟩ := get_some (l := l) (k := k - 1) (by omega)
    clear h
    repeat (first | refine i_len rfl ?_ | refine i_s rfl ?_ | refine i_lenm rfl rfl rfl ?_ | refine c_seq ?_ | refine c_cut0 ?_ | refine c_ops ?_ | refine i_nil ?_ | refine e_seq ?_ | refine e_block ?_ | refine c_block ?_ | refine c_skip ?_ | refine c_ret ?_ | refine c_exit ?_ | refine e_exit rfl ?_ | refine i_s0 rfl ?_ | refine c_leaf ?_ | refine i_gt rfl ?_ | refine i_gf rfl ?_ | refine i_gd rfl ?_ | refine c_t rfl ?_ | refine c_f rfl ?_ | refine i_conv rfl (by simp only [InR, List.length_map]; omega) ?_ | refine i_add rfl rfl (by simp only [InR, List.length_map]; omega) ?_ | refine i_sub rfl rfl (by simp only [InR, List.length_map]; omega) ?_ | refine i_ixm rfl rfl (by assumption) ?_ | refine i_iai rfl rfl (by omega) (by assumption) rfl ?_ | refine i_iam rfl rfl (by assumption) rfl ?_ | refine i_tk rfl rfl (by omega) ?_ | refine i_stb rfl ?_ | refine i_alloc rfl ?_ | refine i_box rfl rfl ?_ | refine i_nv rfl ?_)
    refine i_ima rfl rfl rfl rfl (by omega) (by omega) rfl ?_
    refine i_ldp (row := i64V x) rfl rfl rfl (by simp [hx]) rfl ?_
    repeat (first | refine i_len rfl ?_ | refine i_s rfl ?_ | refine i_lenm rfl rfl rfl ?_ | refine c_seq ?_ | refine c_cut0 ?_ | refine c_ops ?_ | refine i_nil ?_ | refine e_seq ?_ | refine e_block ?_ | refine c_block ?_ | refine c_skip ?_ | refine c_ret ?_ | refine c_exit ?_ | refine e_exit rfl ?_ | refine i_s0 rfl ?_ | refine c_leaf ?_ | refine i_gt rfl ?_ | refine i_gf rfl ?_ | refine i_gd rfl ?_ | refine c_t rfl ?_ | refine c_f rfl ?_ | refine i_conv rfl (by simp only [InR, List.length_map]; omega) ?_ | refine i_add rfl rfl (by simp only [InR, List.length_map]; omega) ?_ | refine i_sub rfl rfl (by simp only [InR, List.length_map]; omega) ?_ | refine i_ixm rfl rfl (by assumption) ?_ | refine i_iai rfl rfl (by omega) (by assumption) rfl ?_ | refine i_iam rfl rfl (by assumption) rfl ?_ | refine i_tk rfl rfl (by omega) ?_ | refine i_stb rfl ?_ | refine i_alloc rfl ?_ | refine i_box rfl rfl ?_ | refine i_nv rfl ?_)
    refine i_ima rfl rfl rfl rfl (by omega) (by omega) rfl ?_
    refine i_ldp (row := i64V y) rfl rfl rfl (by rw [show 0 + ((k : Int) - 1).toNat = k - 1 from by omega]; simp [hy]) rfl ?_
    repeat (first | refine i_len rfl ?_ | refine i_s rfl ?_ | refine i_lenm rfl rfl rfl ?_ | refine c_seq ?_ | refine c_cut0 ?_ | refine c_ops ?_ | refine i_nil ?_ | refine e_seq ?_ | refine e_block ?_ | refine c_block ?_ | refine c_skip ?_ | refine c_ret ?_ | refine c_exit ?_ | refine e_exit rfl ?_ | refine i_s0 rfl ?_ | refine c_leaf ?_ | refine i_gt rfl ?_ | refine i_gf rfl ?_ | refine i_gd rfl ?_ | refine c_t rfl ?_ | refine c_f rfl ?_ | refine i_conv rfl (by simp only [InR, List.length_map]; omega) ?_ | refine i_add rfl rfl (by simp only [InR, List.length_map]; omega) ?_ | refine i_sub rfl rfl (by simp only [InR, List.length_map]; omega) ?_ | refine i_ixm rfl rfl (by assumption) ?_ | refine i_iai rfl rfl (by omega) (by assumption) rfl ?_ | refine i_iam rfl rfl (by assumption) rfl ?_ | refine i_tk rfl rfl (by omega) ?_ | refine i_stb rfl ?_ | refine i_alloc rfl ?_ | refine i_box rfl rfl ?_ | refine i_nv rfl ?_)
    refine c_cond rfl (fun h => ?_) (fun h => ?_)
    · have e : x = y := by simpa using h
      subst e
      clear h
      repeat (first | refine i_len rfl ?_ | refine i_s rfl ?_ | refine i_lenm rfl rfl rfl ?_ | refine c_seq ?_ | refine c_cut0 ?_ | refine c_ops ?_ | refine i_nil ?_ | refine e_seq ?_ | refine e_block ?_ | refine c_block ?_ | refine c_skip ?_ | refine c_ret ?_ | refine c_exit ?_ | refine e_exit rfl ?_ | refine i_s0 rfl ?_ | refine c_leaf ?_ | refine i_gt rfl ?_ | refine i_gf rfl ?_ | refine i_gd rfl ?_ | refine c_t rfl ?_ | refine c_f rfl ?_ | refine i_conv rfl (by simp only [InR, List.length_map]; omega) ?_ | refine i_add rfl rfl (by simp only [InR, List.length_map]; omega) ?_ | refine i_sub rfl rfl (by simp only [InR, List.length_map]; omega) ?_ | refine i_ixm rfl rfl (by assumption) ?_ | refine i_iai rfl rfl (by omega) (by assumption) rfl ?_ | refine i_iam rfl rfl (by assumption) rfl ?_ | refine i_tk rfl rfl (by omega) ?_ | refine i_stb rfl ?_ | refine i_alloc rfl ?_ | refine i_box rfl rfl ?_ | refine i_nv rfl ?_)
      refine i_sm rfl rfl rfl rfl (by omega) (by omega) rfl ?_
      repeat (first | refine i_len rfl ?_ | refine i_s rfl ?_ | refine i_lenm rfl rfl rfl ?_ | refine c_seq ?_ | refine c_cut0 ?_ | refine c_ops ?_ | refine i_nil ?_ | refine e_seq ?_ | refine e_block ?_ | refine c_block ?_ | refine c_skip ?_ | refine c_ret ?_ | refine c_exit ?_ | refine e_exit rfl ?_ | refine i_s0 rfl ?_ | refine c_leaf ?_ | refine i_gt rfl ?_ | refine i_gf rfl ?_ | refine i_gd rfl ?_ | refine c_t rfl ?_ | refine c_f rfl ?_ | refine i_conv rfl (by simp only [InR, List.length_map]; omega) ?_ | refine i_add rfl rfl (by simp only [InR, List.length_map]; omega) ?_ | refine i_sub rfl rfl (by simp only [InR, List.length_map]; omega) ?_ | refine i_ixm rfl rfl (by assumption) ?_ | refine i_iai rfl rfl (by omega) (by assumption) rfl ?_ | refine i_iam rfl rfl (by assumption) rfl ?_ | refine i_tk rfl rfl (by omega) ?_ | refine i_stb rfl ?_ | refine i_alloc rfl ?_ | refine i_box rfl rfl ?_ | refine i_nv rfl ?_)
      have e0 := ddK_all k (by omega) k3
      have e1 : ddK l (k + 1) = l.take k := by rw [ddK_skip hx (by omega) hy, e0]
      refine c_lp (ι := Nat) (fun j => [(0, .msl 4032449 gen 0 l.length), (3, .int .i64 (ddK l (k + j)).length), (4, .msl 4032449 gen (0 + k) (l.length - k)), (5, .int .i64 j)])
        (fun j => [(4032449, .arr gen ((ddK l (k + j) ++ l.drop (ddK l (k + j)).length).map i64V))]) (fun j => 1 ≤ j ∧ k + j ≤ l.length ∧ (ddK l (k + j)).length + 1 ≤ k + j) (fun j => l.length - j) 1 ⟨Nat.le_refl _, by omega, by rw [e1]; simp; omega⟩ ⟨⟨rfl, ?_, rfl, rfl, trivial⟩, ⟨?_, trivial⟩, rfl⟩ fun j hj => ?_
      · rw [e1, List.length_take, Nat.min_eq_left (by omega)]; rfl
      · rw [e1, List.length_take, Nat.min_eq_left (by omega), List.take_append_drop]; rfl
      obtain ⟨j1, j2, j3⟩ := hj
      have hdl := ddK_len l (k + j)
      have hAl : (ddK l (k + j) ++ l.drop (ddK l (k + j)).length).length = l.length := by simp; omega
      repeat (first | refine i_len rfl ?_ | refine i_s rfl ?_ | refine i_lenm rfl rfl rfl ?_ | refine c_seq ?_ | refine c_cut0 ?_ | refine c_ops ?_ | refine i_nil ?_ | refine e_seq ?_ | refine e_block ?_ | refine c_block ?_ | refine c_skip ?_ | refine c_ret ?_ | refine c_exit ?_ | refine e_exit rfl ?_ | refine i_s0 rfl ?_ | refine c_leaf ?_ | refine i_gt rfl ?_ | refine i_gf rfl ?_ | refine i_gd rfl ?_ | refine c_t rfl ?_ | refine c_f rfl ?_ | refine i_conv rfl (by simp only [InR, List.length_map]; omega) ?_ | refine i_add rfl rfl (by simp only [InR, List.length_map]; omega) ?_ | refine i_sub rfl rfl (by simp only [InR, List.length_map]; omega) ?_ | refine i_ixm rfl rfl (by assumption) ?_ | refine i_iai rfl rfl (by omega) (by assumption) rfl ?_ | refine i_iam rfl rfl (by assumption) rfl ?_ | refine i_tk rfl rfl (by omega) ?_ | refine i_stb rfl ?_ | refine i_alloc rfl ?_ | refine i_box rfl rfl ?_ | refine i_nv rfl ?_)
      refine c_cond rfl (fun h => ?_) (fun h => ?_)
      · have hlt2 : j < l.length - k := by have : (j : Int) < ((l.length - k : Nat) : Int) := by simpa using h
                                           omega
        obtain ⟨a, ha⟩ := get_some (l := l) (k := k + j) (by omega)
        obtain ⟨b, hb⟩ := get_some (l := l) (k := k + j - 1) (by omega)
        have ha' := ha
        rw [← dd_get (m := k + j) (by omega)] at ha'
        have hb' := hb
        rw [← dd_get (m := k + j) (by omega)] at hb'
        clear h
        repeat (first | refine i_len rfl ?_ | refine i_s rfl ?_ | refine i_lenm rfl rfl rfl ?_ | refine c_seq ?_ | refine c_cut0 ?_ | refine c_ops ?_ | refine i_nil ?_ | refine e_seq ?_ | refine e_block ?_ | refine c_block ?_ | refine c_skip ?_ | refine c_ret ?_ | refine c_exit ?_ | refine e_exit rfl ?_ | refine i_s0 rfl ?_ | refine c_leaf ?_ | refine i_gt rfl ?_ | refine i_gf rfl ?_ | refine i_gd rfl ?_ | refine c_t rfl ?_ | refine c_f rfl ?_ | refine i_conv rfl (by simp only [InR, List.length_map]; omega) ?_ | refine i_add rfl rfl (by simp only [InR, List.length_map]; omega) ?_ | refine i_sub rfl rfl (by simp only [InR, List.length_map]; omega) ?_ | refine i_ixm rfl rfl (by assumption) ?_ | refine i_iai rfl rfl (by omega) (by assumption) rfl ?_ | refine i_iam rfl rfl (by assumption) rfl ?_ | refine i_tk rfl rfl (by omega) ?_ | refine i_stb rfl ?_ | refine i_alloc rfl ?_ | refine i_box rfl rfl ?_ | refine i_nv rfl ?_)
        refine i_ima rfl rfl rfl rfl (by omega) (by omega) rfl ?_
        refine i_ldp (row := i64V a) rfl rfl rfl (by rw [show 0 + k + (j : Int).toNat = k + j from by omega, List.getElem?_map, ha']; rfl) rfl ?_
        repeat (first | refine i_len rfl ?_ | refine i_s rfl ?_ | refine i_lenm rfl rfl rfl ?_ | refine c_seq ?_ | refine c_cut0 ?_ | refine c_ops ?_ | refine i_nil ?_ | refine e_seq ?_ | refine e_block ?_ | refine c_block ?_ | refine c_skip ?_ | refine c_ret ?_ | refine c_exit ?_ | refine e_exit rfl ?_ | refine i_s0 rfl ?_ | refine c_leaf ?_ | refine i_gt rfl ?_ | refine i_gf rfl ?_ | refine i_gd rfl ?_ | refine c_t rfl ?_ | refine c_f rfl ?_ | refine i_conv rfl (by simp only [InR, List.length_map]; omega) ?_ | refine i_add rfl rfl (by simp only [InR, List.length_map]; omega) ?_ | refine i_sub rfl rfl (by simp only [InR, List.length_map]; omega) ?_ | refine i_ixm rfl rfl (by assumption) ?_ | refine i_iai rfl rfl (by omega) (by assumption) rfl ?_ | refine i_iam rfl rfl (by assumption) rfl ?_ | refine i_tk rfl rfl (by omega) ?_ | refine i_stb rfl ?_ | refine i_alloc rfl ?_ | refine i_box rfl rfl ?_ | refine i_nv rfl ?_)
        refine i_ima rfl rfl rfl rfl (by omega) (by omega) rfl ?_
        refine i_ldp (row := i64V b) rfl rfl rfl (by rw [show 0 + k + ((j : Int) - 1).toNat = k + j - 1 from by omega, List.getElem?_map, hb']; rfl) rfl ?_
        repeat (first | refine i_len rfl ?_ | refine i_s rfl ?_ | refine i_lenm rfl rfl rfl ?_ | refine c_seq ?_ | refine c_cut0 ?_ | refine c_ops ?_ | refine i_nil ?_ | refine e_seq ?_ | refine e_block ?_ | refine c_block ?_ | refine c_skip ?_ | refine c_ret ?_ | refine c_exit ?_ | refine e_exit rfl ?_ | refine i_s0 rfl ?_ | refine c_leaf ?_ | refine i_gt rfl ?_ | refine i_gf rfl ?_ | refine i_gd rfl ?_ | refine c_t rfl ?_ | refine c_f rfl ?_ | refine i_conv rfl (by simp only [InR, List.length_map]; omega) ?_ | refine i_add rfl rfl (by simp only [InR, List.length_map]; omega) ?_ | refine i_sub rfl rfl (by simp only [InR, List.length_map]; omega) ?_ | refine i_ixm rfl rfl (by assumption) ?_ | refine i_iai rfl rfl (by omega) (by assumption) rfl ?_ | refine i_iam rfl rfl (by assumption) rfl ?_ | refine i_tk rfl rfl (by omega) ?_ | refine i_stb rfl ?_ | refine i_alloc rfl ?_ | refine i_box rfl rfl ?_ | refine i_nv rfl ?_)
        refine c_cond rfl (fun h => ?_) (fun h => ?_)
        · have hne : a ≠ b := by simpa using h
          have ek : ddK l (k + (j + 1)) = ddK l (k + j) ++ [a] := ddK_keep (k := k + j) ha (.inr (by rw [hb]; simpa using fun e => hne e.symm))
          clear h
          repeat (first | refine i_len rfl ?_ | refine i_s rfl ?_ | refine i_lenm rfl rfl rfl ?_ | refine c_seq ?_ | refine c_cut0 ?_ | refine c_ops ?_ | refine i_nil ?_ | refine e_seq ?_ | refine e_block ?_ | refine c_block ?_ | refine c_skip ?_ | refine c_ret ?_ | refine c_exit ?_ | refine e_exit rfl ?_ | refine i_s0 rfl ?_ | refine c_leaf ?_ | refine i_gt rfl ?_ | refine i_gf rfl ?_ | refine i_gd rfl ?_ | refine c_t rfl ?_ | refine c_f rfl ?_ | refine i_conv rfl (by simp only [InR, List.length_map]; omega) ?_ | refine i_add rfl rfl (by simp only [InR, List.length_map]; omega) ?_ | refine i_sub rfl rfl (by simp only [InR, List.length_map]; omega) ?_ | refine i_ixm rfl rfl (by assumption) ?_ | refine i_iai rfl rfl (by omega) (by assumption) rfl ?_ | refine i_iam rfl rfl (by assumption) rfl ?_ | refine i_tk rfl rfl (by omega) ?_ | refine i_stb rfl ?_ | refine i_alloc rfl ?_ | refine i_box rfl rfl ?_ | refine i_nv rfl ?_)
          refine i_ima rfl rfl rfl rfl (by omega) (by omega) rfl ?_
          refine i_ldp (row := i64V a) rfl rfl rfl (by rw [show 0 + k + (j : Int).toNat = k + j from by omega, List.getElem?_map, ha']; rfl) rfl ?_
          repeat (first | refine i_len rfl ?_ | refine i_s rfl ?_ | refine i_lenm rfl rfl rfl ?_ | refine c_seq ?_ | refine c_cut0 ?_ | refine c_ops ?_ | refine i_nil ?_ | refine e_seq ?_ | refine e_block ?_ | refine c_block ?_ | refine c_skip ?_ | refine c_ret ?_ | refine c_exit ?_ | refine e_exit rfl ?_ | refine i_s0 rfl ?_ | refine c_leaf ?_ | refine i_gt rfl ?_ | refine i_gf rfl ?_ | refine i_gd rfl ?_ | refine c_t rfl ?_ | refine c_f rfl ?_ | refine i_conv rfl (by simp only [InR, List.length_map]; omega) ?_ | refine i_add rfl rfl (by simp only [InR, List.length_map]; omega) ?_ | refine i_sub rfl rfl (by simp only [InR, List.length_map]; omega) ?_ | refine i_ixm rfl rfl (by assumption) ?_ | refine i_iai rfl rfl (by omega) (by assumption) rfl ?_ | refine i_iam rfl rfl (by assumption) rfl ?_ | refine i_tk rfl rfl (by omega) ?_ | refine i_stb rfl ?_ | refine i_alloc rfl ?_ | refine i_box rfl rfl ?_ | refine i_nv rfl ?_)
          refine i_ima rfl rfl rfl rfl (by omega) (by omega) rfl ?_
          refine i_sti rfl rfl rfl rfl rfl (by rw [hAl]; omega) ?_
          repeat (first | refine i_len rfl ?_ | refine i_s rfl ?_ | refine i_lenm rfl rfl rfl ?_ | refine c_seq ?_ | refine c_cut0 ?_ | refine c_ops ?_ | refine i_nil ?_ | refine e_seq ?_ | refine e_block ?_ | refine c_block ?_ | refine c_skip ?_ | refine c_ret ?_ | refine c_exit ?_ | refine e_exit rfl ?_ | refine i_s0 rfl ?_ | refine c_leaf ?_ | refine i_gt rfl ?_ | refine i_gf rfl ?_ | refine i_gd rfl ?_ | refine c_t rfl ?_ | refine c_f rfl ?_ | refine i_conv rfl (by simp only [InR, List.length_map]; omega) ?_ | refine i_add rfl rfl (by simp only [InR, List.length_map]; omega) ?_ | refine i_sub rfl rfl (by simp only [InR, List.length_map]; omega) ?_ | refine i_ixm rfl rfl (by assumption) ?_ | refine i_iai rfl rfl (by omega) (by assumption) rfl ?_ | refine i_iam rfl rfl (by assumption) rfl ?_ | refine i_tk rfl rfl (by omega) ?_ | refine i_stb rfl ?_ | refine i_alloc rfl ?_ | refine i_box rfl rfl ?_ | refine i_nv rfl ?_)
          refine e_lp (j + 1) ⟨by omega, by omega, by rw [ek]; simp; omega⟩ (by omega) ⟨⟨rfl, ?_, rfl, rfl, trivial⟩, ⟨?_, trivial⟩, rfl⟩
          · rw [ek]; simp; rfl
          · have := dd_set (l := l) (m := k + j) (x := a) (by omega)
            rw [ek, ← this, show (ddK l (k + j)).length = 0 + ((ddK l (k + j)).length : Int).toNat from by omega]
            simp
            rfl
        · have he : a = b := by simpa using h
          subst he
          have ek : ddK l (k + (j + 1)) = ddK l (k + j) := ddK_skip (k := k + j) ha (by omega) hb
          clear h
          repeat (first | refine i_len rfl ?_ | refine i_s rfl ?_ | refine i_lenm rfl rfl rfl ?_ | refine c_seq ?_ | refine c_cut0 ?_ | refine c_ops ?_ | refine i_nil ?_ | refine e_seq ?_ | refine e_block ?_ | refine c_block ?_ | refine c_skip ?_ | refine c_ret ?_ | refine c_exit ?_ | refine e_exit rfl ?_ | refine i_s0 rfl ?_ | refine c_leaf ?_ | refine i_gt rfl ?_ | refine i_gf rfl ?_ | refine i_gd rfl ?_ | refine c_t rfl ?_ | refine c_f rfl ?_ | refine i_conv rfl (by simp only [InR, List.length_map]; omega) ?_ | refine i_add rfl rfl (by simp only [InR, List.length_map]; omega) ?_ | refine i_sub rfl rfl (by simp only [InR, List.length_map]; omega) ?_ | refine i_ixm rfl rfl (by assumption) ?_ | refine i_iai rfl rfl (by omega) (by assumption) rfl ?_ | refine i_iam rfl rfl (by assumption) rfl ?_ | refine i_tk rfl rfl (by omega) ?_ | refine i_stb rfl ?_ | refine i_alloc rfl ?_ | refine i_box rfl rfl ?_ | refine i_nv rfl ?_)
          refine e_lp (j + 1) ⟨by omega, by omega, by rw [ek]; omega⟩ (by omega) ⟨⟨rfl, ?_, rfl, rfl, trivial⟩, ⟨?_, trivial⟩, rfl⟩
          · rw [ek]; rfl
          · rw [ek]; rfl
      · have hje : k + j = l.length := by have : ¬ (j : Int) < ((l.length - k : Nat) : Int) := by simpa using h
                                          omega
        have ec : compL l = ddK l (k + j) := by unfold compL; rw [hje]
        clear fin
        clear h
        repeat (first | refine i_len rfl ?_ | refine i_s rfl ?_ | refine i_lenm rfl rfl rfl ?_ | refine c_seq ?_ | refine c_cut0 ?_ | refine c_ops ?_ | refine i_nil ?_ | refine e_seq ?_ | refine e_block ?_ | refine c_block ?_ | refine c_skip ?_ | refine c_ret ?_ | refine c_exit ?_ | refine e_exit rfl ?_ | refine i_s0 rfl ?_ | refine c_leaf ?_ | refine i_gt rfl ?_ | refine i_gf rfl ?_ | refine i_gd rfl ?_ | refine c_t rfl ?_ | refine c_f rfl ?_ | refine i_conv rfl (by simp only [InR, List.length_map]; omega) ?_ | refine i_add rfl rfl (by simp only [InR, List.length_map]; omega) ?_ | refine i_sub rfl rfl (by simp only [InR, List.length_map]; omega) ?_ | refine i_ixm rfl rfl (by assumption) ?_ | refine i_iai rfl rfl (by omega) (by assumption) rfl ?_ | refine i_iam rfl rfl (by assumption) rfl ?_ | refine i_tk rfl rfl (by omega) ?_ | refine i_stb rfl ?_ | refine i_alloc rfl ?_ | refine i_box rfl rfl ?_ | refine i_nv rfl ?_)
        refine i_sm rfl rfl rfl rfl (by omega) (by omega) rfl ?_
        refine i_clear rfl rfl rfl rfl ?_
        repeat (first | refine i_len rfl ?_ | refine i_s rfl ?_ | refine i_lenm rfl rfl rfl ?_ | refine c_seq ?_ | refine c_cut0 ?_ | refine c_ops ?_ | refine i_nil ?_ | refine e_seq ?_ | refine e_block ?_ | refine c_block ?_ | refine c_skip ?_ | refine c_ret ?_ | refine c_exit ?_ | refine e_exit rfl ?_ | refine i_s0 rfl ?_ | refine c_leaf ?_ | refine i_gt rfl ?_ | refine i_gf rfl ?_ | refine i_gd rfl ?_ | refine c_t rfl ?_ | refine c_f rfl ?_ | refine i_conv rfl (by simp only [InR, List.length_map]; omega) ?_ | refine i_add rfl rfl (by simp only [InR, List.length_map]; omega) ?_ | refine i_sub rfl rfl (by simp only [InR, List.length_map]; omega) ?_ | refine i_ixm rfl rfl (by assumption) ?_ | refine i_iai rfl rfl (by omega) (by assumption) rfl ?_ | refine i_iam rfl rfl (by assumption) rfl ?_ | refine i_tk rfl rfl (by omega) ?_ | refine i_stb rfl ?_ | refine i_alloc rfl ?_ | refine i_box rfl rfl ?_ | refine i_nv rfl ?_)
        refine i_smh rfl rfl rfl rfl rfl (by omega) (by omega) (by omega) rfl ?_
        repeat (first | refine i_len rfl ?_ | refine i_s rfl ?_ | refine i_lenm rfl rfl rfl ?_ | refine c_seq ?_ | refine c_cut0 ?_ | refine c_ops ?_ | refine i_nil ?_ | refine e_seq ?_ | refine e_block ?_ | refine c_block ?_ | refine c_skip ?_ | refine c_ret ?_ | refine c_exit ?_ | refine e_exit rfl ?_ | refine i_s0 rfl ?_ | refine c_leaf ?_ | refine i_gt rfl ?_ | refine i_gf rfl ?_ | refine i_gd rfl ?_ | refine c_t rfl ?_ | refine c_f rfl ?_ | refine i_conv rfl (by simp only [InR, List.length_map]; omega) ?_ | refine i_add rfl rfl (by simp only [InR, List.length_map]; omega) ?_ | refine i_sub rfl rfl (by simp only [InR, List.length_map]; omega) ?_ | refine i_ixm rfl rfl (by assumption) ?_ | refine i_iai rfl rfl (by omega) (by assumption) rfl ?_ | refine i_iam rfl rfl (by assumption) rfl ?_ | refine i_tk rfl rfl (by omega) ?_ | refine i_stb rfl ?_ | refine i_alloc rfl ?_ | refine i_box rfl rfl ?_ | refine i_nv rfl ?_)
        rw [ec]
        refine e_ret ⟨rfl, _, rfl, rfl, rfl, ⟨_, ?_, restr_stOf _ _, ?_⟩, rfl⟩
        · show V.msl _ _ _ _ = V.msl _ _ _ _
          simp
        · have e1 : (0 + ((ddK l (k + j)).length : Int).toNat) = (ddK l (k + j)).length := by omega
          rw [e1, List.append_assoc, List.take_append_of_le_length (by simp), List.take_take, Nat.min_self, ← List.map_take, List.take_append_of_le_length (Nat.le_refl _), List.take_length]
    · have hne : x ≠ y := by simpa using h
      clear h
      repeat (first | refine i_len rfl ?_ | refine i_s rfl ?_ | refine i_lenm rfl rfl rfl ?_ | refine c_seq ?_ | refine c_cut0 ?_ | refine c_ops ?_ | refine i_nil ?_ | refine e_seq ?_ | refine e_block ?_ | refine c_block ?_ | refine c_skip ?_ | refine c_ret ?_ | refine c_exit ?_ | refine e_exit rfl ?_ | refine i_s0 rfl ?_ | refine c_leaf ?_ | refine i_gt rfl ?_ | refine i_gf rfl ?_ | refine i_gd rfl ?_ | refine c_t rfl ?_ | refine c_f rfl ?_ | refine i_conv rfl (by simp only [InR, List.length_map]; omega) ?_ | refine i_add rfl rfl (by simp only [InR, List.length_map]; omega) ?_ | refine i_sub rfl rfl (by simp only [InR, List.length_map]; omega) ?_ | refine i_ixm rfl rfl (by assumption) ?_ | refine i_iai rfl rfl (by omega) (by assumption) rfl ?_ | refine i_iam rfl rfl (by assumption) rfl ?_ | refine i_tk rfl rfl (by omega) ?_ | refine i_stb rfl ?_ | refine i_alloc rfl ?_ | refine i_box rfl rfl ?_ | refine i_nv rfl ?_)
      refine e_lp (k + 1) ⟨by omega, by omega, fun j h1 h3 => ?_⟩ (by omega) ⟨by repeat (first | exact trivial | refine ⟨rfl, ?_⟩), by repeat (first | exact trivial | refine ⟨rfl, ?_⟩), rfl⟩
      by_cases e : j = k
      · subst e; rw [hx, hy]; simpa using hne
      · exact k3 j h1 (by omega)
  · have hke : k = l.length := by have : ¬ (k : Int) < l.length := by simpa using h
                                  omega
    subst hke
    repeat (first | refine i_len rfl ?_ | refine i_s rfl ?_ | refine i_lenm rfl rfl rfl ?_ | refine c_seq ?_ | refine c_cut0 ?_ | refine c_ops ?_ | refine i_nil ?_ | refine e_seq ?_ | refine e_block ?_ | refine c_block ?_ | refine c_skip ?_ | refine c_ret ?_ | refine c_exit ?_ | refine e_exit rfl ?_ | refine i_s0 rfl ?_ | refine c_leaf ?_ | refine i_gt rfl ?_ | refine i_gf rfl ?_ | refine i_gd rfl ?_ | refine c_t rfl ?_ | refine c_f rfl ?_ | refine i_conv rfl (by simp only [InR, List.length_map]; omega) ?_ | refine i_add rfl rfl (by simp only [InR, List.length_map]; omega) ?_ | refine i_sub rfl rfl (by simp only [InR, List.length_map]; omega) ?_ | refine i_ixm rfl rfl (by assumption) ?_ | refine i_iai rfl rfl (by omega) (by assumption) rfl ?_ | refine i_iam rfl rfl (by assumption) rfl ?_ | refine i_tk rfl rfl (by omega) ?_ | refine i_stb rfl ?_ | refine i_alloc rfl ?_ | refine i_box rfl rfl ?_ | refine i_nv rfl ?_)
    refine e_ret ⟨rfl, _, rfl, rfl, rfl, ?_, rfl⟩
    rw [restr_stOf]
    exact fin (by unfold compL; rw [ddK_all _ (Nat.le_refl _) k3, List.take_length])
theorem msl_all {l : List Int} {n : Nat} (h : l.length = n) : V.sl .p (((l.map i64V).drop 0).take n) = V.sl .p (l.map i64V) := by
  rw [List.drop_zero, List.take_of_length_le (by simp; omega)]
theorem er_msl {σ : Store} {nm gen i len n : Nat} {rows : List V} (hs : σ nm = .arr gen rows) : er σ (n + 1) (.msl nm gen i len) = .sl .p ((rows.drop i).take len) := by
  simp [er, hs]
theorem take_filter_succ {l : List Int} {p : Int → Bool} {k : Nat} {x : Int} (h : l[k]? = some x) : (l.take (k + 1)).filter p = (l.take k).filter p ++ (if p x = true then [x] else []) := by
  rw [take_succ_get h, List.filter_append]
  congr 1
  cases hx : p x <;> simp [List.filter, hx]
def c_strips_Update : Cmd :=
  (.seq
   (.ops [
   .op (some 6) none (.mov (.c (.sl .nil [])))])
   (.cut
   (.seq
   (.ops [
   .op (some 7) none (.newArr 4032449)])
   (.cut
   (.seq
   (.seq
   (.ops [
   .op (some 12) none (.mov (.t 0)),
   .op (some 13) none (.len false (.t 12)),
   .op (some 14) none (.mov (.c (.int .i64 (0))))])
   (.cut
   (.block 0
   (.loop
   (.seq
   (.ops [
   .op (some 15) none (.bin .lss false [] (.t 14) (.t 13))])
   (.cut
   (.seq
   (.cond (.t 15)
   .skip
   (.exit 0))
   (.cut
   (.seq
   (.block 1
   (.seq
   (.ops [
   .op (some 16) none (.iaddr 1 (.t 12) (.t 14)),
   .op (some 17) none (.load false 1 (.t 16)),
   .op (some 9) none (.mov (.t 17))])
   (.cut
   (.seq
   (.ops [
   .op (some 19) none (.mov (.t 2)),
   .op (some 20) none (.mov (.t 9)),
   .op (some 21) none (.call .f (.c (.fn 62 [])) [.t 19, .t 20]),
   .op (some 18) none (.mov (.t 21)),
   .op (some 22) none (.extract (.t 18) 0),
   .op (some 23) none (.extract (.t 18) 1),
   .op (some 10) none (.mov (.t 22)),
   .op (some 11) none (.mov (.t 23))])
   (.cut
   (.seq
   (.ops [
   .op (some 24) none (.mov (.t 11)),
   .op (some 25) none (.not (.t 24))])
   (.cut
   (.cond (.t 25)
   (.ops [
   .op (some 26) none (.mov (.t 7)),
   .op (some 27) none (.mov (.t 9)),
   .op (some 28) none (.bsl 1 [.t 27]),
   .op (some 29) none (.append 1 8 (.t 26) (.t 28)),
   .op (some 7) none (.mov (.t 29))])
   .skip))))))))
   (.cut
   (.ops [
   .op (some 30) none (.bin .add false [] (.t 14) (.c (.int .i64 (1)))),
   .op (some 14) none (.mov (.t 30))])))))))))))
   (.cut
   (.seq
   (.ops [
   .op (some 31) none (.mov (.t 7)),
   .op (some 32) none (.mov (.t 1)),
   .op (some 33) none (.append 1 8 (.t 31) (.t 32)),
   .op (some 7) none (.mov (.t 33))])
   (.cut
   (.seq
   (.ops [
   .op (some 34) none (.mov (.t 7)),
   .op (some 35) none (.call (.s [4032449]) (.c (.fn 66 [])) [.t 34])])
   (.cut
   (.seq
   (.ops [
   .op (some 36) none (.mov (.t 7)),
   .op (some 37) none (.call (.s [4032449]) (.c (.fn 67 [])) [.t 36]),
   .op (some 6) none (.mov (.t 37))])
   .ret)))))))))))
def r_strips_Update : List RVar := [.tmp 6]
def n_strips_Update : Nat := 38
theorem k_strips_Update : chkFn Go.Proofs.Try.prog 63 n_strips_Update r_strips_Update c_strips_Update = true := by kernel_rfl
theorem f_strips_Update (s add del : List Int) (hs : s.length ≤ 17592186044) (ha : add.length ≤ 17592186044) (hd : del.length ≤ 17592186044) (hdel : SS del) :
    Fc Go.Proofs.Try.prog 63 [.sl .p (s.map i64V), .sl .p (add.map i64V), .sl .p (del.map i64V)] (.sl .p ((updL s add del).map i64V)) := by
  have hu : updL s add del = compL (srtL (s.filter (fun x => decide (x ∉ del)) ++ add)) := rfl
  rw [hu]
  generalize hp : (fun x => decide (x ∉ del)) = p
  refine Fn.step mixed k_strips_Update ?_
  repeat (first | refine i_len rfl ?_ | refine i_s rfl ?_ | refine i_lenm rfl rfl rfl ?_ | refine c_seq ?_ | refine c_cut0 ?_ | refine c_ops ?_ | refine i_nil ?_ | refine e_seq ?_ | refine e_block ?_ | refine c_block ?_ | refine c_skip ?_ | refine c_ret ?_ | refine c_exit ?_ | refine e_exit rfl ?_ | refine i_s0 rfl ?_ | refine c_leaf ?_ | refine i_gt rfl ?_ | refine i_gf rfl ?_ | refine i_gd rfl ?_ | refine c_t rfl ?_ | refine c_f rfl ?_ | refine i_conv rfl (by simp only [InR, List.length_map]; omega) ?_ | refine i_add rfl rfl (by simp only [InR, List.length_map]; omega) ?_ | refine i_sub rfl rfl (by simp only [InR, List.length_map]; omega) ?_ | refine i_ixm rfl rfl (by assumption) ?_ | refine i_iai rfl rfl (by omega) (by assumption) rfl ?_ | refine i_iam rfl rfl (by assumption) rfl ?_ | refine i_tk rfl rfl (by omega) ?_ | refine i_stb rfl ?_ | refine i_alloc rfl ?_ | refine i_box rfl rfl ?_ | refine i_nv rfl ?_)
  refine i_na rfl ?_
  repeat (first | refine i_len rfl ?_ | refine i_s rfl ?_ | refine i_lenm rfl rfl rfl ?_ | refine c_seq ?_ | refine c_cut0 ?_ | refine c_ops ?_ | refine i_nil ?_ | refine e_seq ?_ | refine e_block ?_ | refine c_block ?_ | refine c_skip ?_ | refine c_ret ?_ | refine c_exit ?_ | refine e_exit rfl ?_ | refine i_s0 rfl ?_ | refine c_leaf ?_ | refine i_gt rfl ?_ | refine i_gf rfl ?_ | refine i_gd rfl ?_ | refine c_t rfl ?_ | refine c_f rfl ?_ | refine i_conv rfl (by simp only [InR, List.length_map]; omega) ?_ | refine i_add rfl rfl (by simp only [InR, List.length_map]; omega) ?_ | refine i_sub rfl rfl (by simp only [InR, List.length_map]; omega) ?_ | refine i_ixm rfl rfl (by assumption) ?_ | refine i_iai rfl rfl (by omega) (by assumption) rfl ?_ | refine i_iam rfl rfl (by assumption) rfl ?_ | refine i_tk rfl rfl (by omega) ?_ | refine i_stb rfl ?_ | refine i_alloc rfl ?_ | refine i_box rfl rfl ?_ | refine i_nv rfl ?_)
  refine c_for s.length (fun k => [(1, .sl .p (add.map i64V)), (2, .sl .p (del.map i64V)), (7, .msl 4032449 ((s.take k).filter p).length 0 ((s.take k).filter p).length), (12, .sl .p (s.map i64V)), (13, .int .i64 s.length), (14, .int .i64 k)])
    (fun k => [(4032449, .arr ((s.take k).filter p).length (((s.take k).filter p).map i64V))]) (fun _ => True) trivial ⟨by repeat (first | exact trivial | refine ⟨rfl, ?_⟩), by repeat (first | exact trivial | refine ⟨rfl, ?_⟩), rfl⟩ fun k hk _ => ?_
  have hfl : ((s.take k).filter p).length ≤ k := Nat.le_trans (List.length_filter_le _ _) (by simp; omega)
  repeat (first | refine i_len rfl ?_ | refine i_s rfl ?_ | refine i_lenm rfl rfl rfl ?_ | refine c_seq ?_ | refine c_cut0 ?_ | refine c_ops ?_ | refine i_nil ?_ | refine e_seq ?_ | refine e_block ?_ | refine c_block ?_ | refine c_skip ?_ | refine c_ret ?_ | refine c_exit ?_ | refine e_exit rfl ?_ | refine i_s0 rfl ?_ | refine c_leaf ?_ | refine i_gt rfl ?_ | refine i_gf rfl ?_ | refine i_gd rfl ?_ | refine c_t rfl ?_ | refine c_f rfl ?_ | refine i_conv rfl (by simp only [InR, List.length_map]; omega) ?_ | refine i_add rfl rfl (by simp only [InR, List.length_map]; omega) ?_ | refine i_sub rfl rfl (by simp only [InR, List.length_map]; omega) ?_ | refine i_ixm rfl rfl (by assumption) ?_ | refine i_iai rfl rfl (by omega) (by assumption) rfl ?_ | refine i_iam rfl rfl (by assumption) rfl ?_ | refine i_tk rfl rfl (by omega) ?_ | refine i_stb rfl ?_ | refine i_alloc rfl ?_ | refine i_box rfl rfl ?_ | refine i_nv rfl ?_)
  refine c_cond rfl (fun h => ?_) (fun h => ?_)
  · have hlt : k < s.length := by simpa using h
    obtain ⟨x, hx⟩ := get_some hlt
    have hB := f_BinarySearch del x (by omega) hdel
    have ef := take_filter_succ (p := p) hx
    have hpx : p x = !decide (x ∈ del) := by rw [← hp]; simp
    clear h
    repeat (first | refine i_len rfl ?_ | refine i_s rfl ?_ | refine i_lenm rfl rfl rfl ?_ | refine c_seq ?_ | refine c_cut0 ?_ | refine c_ops ?_ | refine i_nil ?_ | refine e_seq ?_ | refine e_block ?_ | refine c_block ?_ | refine c_skip ?_ | refine c_ret ?_ | refine c_exit ?_ | refine e_exit rfl ?_ | refine i_s0 rfl ?_ | refine c_leaf ?_ | refine i_gt rfl ?_ | refine i_gf rfl ?_ | refine i_gd rfl ?_ | refine c_t rfl ?_ | refine c_f rfl ?_ | refine i_conv rfl (by simp only [InR, List.length_map]; omega) ?_ | refine i_add rfl rfl (by simp only [InR, List.length_map]; omega) ?_ | refine i_sub rfl rfl (by simp only [InR, List.length_map]; omega) ?_ | refine i_ixm rfl rfl (by assumption) ?_ | refine i_iai rfl rfl (by omega) (by assumption) rfl ?_ | refine i_iam rfl rfl (by assumption) rfl ?_ | refine i_tk rfl rfl (by omega) ?_ | refine i_stb rfl ?_ | refine i_alloc rfl ?_ | refine i_box rfl rfl ?_ | refine i_nv rfl ?_ | refine i_f rfl rfl (hB) rfl ?_)
    refine c_cond rfl (fun h => ?_) (fun h => ?_)
    · rw [hpx, if_pos h] at ef
      repeat (first | refine i_len rfl ?_ | refine i_s rfl ?_ | refine i_lenm rfl rfl rfl ?_ | refine c_seq ?_ | refine c_cut0 ?_ | refine c_ops ?_ | refine i_nil ?_ | refine e_seq ?_ | refine e_block ?_ | refine c_block ?_ | refine c_skip ?_ | refine c_ret ?_ | refine c_exit ?_ | refine e_exit rfl ?_ | refine i_s0 rfl ?_ | refine c_leaf ?_ | refine i_gt rfl ?_ | refine i_gf rfl ?_ | refine i_gd rfl ?_ | refine c_t rfl ?_ | refine c_f rfl ?_ | refine i_conv rfl (by simp only [InR, List.length_map]; omega) ?_ | refine i_add rfl rfl (by simp only [InR, List.length_map]; omega) ?_ | refine i_sub rfl rfl (by simp only [InR, List.length_map]; omega) ?_ | refine i_ixm rfl rfl (by assumption) ?_ | refine i_iai rfl rfl (by omega) (by assumption) rfl ?_ | refine i_iam rfl rfl (by assumption) rfl ?_ | refine i_tk rfl rfl (by omega) ?_ | refine i_stb rfl ?_ | refine i_alloc rfl ?_ | refine i_box rfl rfl ?_ | refine i_nv rfl ?_)
      refine i_appmM [x] rfl rfl rfl rfl rfl (fun c hc => ⟨rfl, rfl⟩) (by simp; omega) (by simp; omega) ?_
      repeat (first | refine i_len rfl ?_ | refine i_s rfl ?_ | refine i_lenm rfl rfl rfl ?_ | refine c_seq ?_ | refine c_cut0 ?_ | refine c_ops ?_ | refine i_nil ?_ | refine e_seq ?_ | refine e_block ?_ | refine c_block ?_ | refine c_skip ?_ | refine c_ret ?_ | refine c_exit ?_ | refine e_exit rfl ?_ | refine i_s0 rfl ?_ | refine c_leaf ?_ | refine i_gt rfl ?_ | refine i_gf rfl ?_ | refine i_gd rfl ?_ | refine c_t rfl ?_ | refine c_f rfl ?_ | refine i_conv rfl (by simp only [InR, List.length_map]; omega) ?_ | refine i_add rfl rfl (by simp only [InR, List.length_map]; omega) ?_ | refine i_sub rfl rfl (by simp only [InR, List.length_map]; omega) ?_ | refine i_ixm rfl rfl (by assumption) ?_ | refine i_iai rfl rfl (by omega) (by assumption) rfl ?_ | refine i_iam rfl rfl (by assumption) rfl ?_ | refine i_tk rfl rfl (by omega) ?_ | refine i_stb rfl ?_ | refine i_alloc rfl ?_ | refine i_box rfl rfl ?_ | refine i_nv rfl ?_)
      refine e_for hlt trivial ⟨⟨rfl, rfl, ?_, rfl, rfl, rfl, trivial⟩, ⟨?_, trivial⟩, rfl⟩
      · rw [ef, List.length_append]; rfl
      · rw [ef, List.length_append]; rfl
    · rw [hpx, if_neg (by simpa using h), List.append_nil] at ef
      repeat (first | refine i_len rfl ?_ | refine i_s rfl ?_ | refine i_lenm rfl rfl rfl ?_ | refine c_seq ?_ | refine c_cut0 ?_ | refine c_ops ?_ | refine i_nil ?_ | refine e_seq ?_ | refine e_block ?_ | refine c_block ?_ | refine c_skip ?_ | refine c_ret ?_ | refine c_exit ?_ | refine e_exit rfl ?_ | refine i_s0 rfl ?_ | refine c_leaf ?_ | refine i_gt rfl ?_ | refine i_gf rfl ?_ | refine i_gd rfl ?_ | refine c_t rfl ?_ | refine c_f rfl ?_ | refine i_conv rfl (by simp only [InR, List.length_map]; omega) ?_ | refine i_add rfl rfl (by simp only [InR, List.length_map]; omega) ?_ | refine i_sub rfl rfl (by simp only [InR, List.length_map]; omega) ?_ | refine i_ixm rfl rfl (by assumption) ?_ | refine i_iai rfl rfl (by omega) (by assumption) rfl ?_ | refine i_iam rfl rfl (by assumption) rfl ?_ | refine i_tk rfl rfl (by omega) ?_ | refine i_stb rfl ?_ | refine i_alloc rfl ?_ | refine i_box rfl rfl ?_ | refine i_nv rfl ?_)
      refine e_for hlt trivial ⟨⟨rfl, rfl, ?_, rfl, rfl, rfl, trivial⟩, ⟨?_, trivial⟩, rfl⟩
      · rw [ef]; rfl
      · rw [ef]; rfl
  · have hge : k = s.length := by have : ¬ k < s.length := by simpa using h
                                  omega
    subst hge
    rw [List.take_length] at hfl ⊢
    clear h hk
    generalize s.filter p = F at *
    repeat (first | refine i_len rfl ?_ | refine i_s rfl ?_ | refine i_lenm rfl rfl rfl ?_ | refine c_seq ?_ | refine c_cut0 ?_ | refine c_ops ?_ | refine i_nil ?_ | refine e_seq ?_ | refine e_block ?_ | refine c_block ?_ | refine c_skip ?_ | refine c_ret ?_ | refine c_exit ?_ | refine e_exit rfl ?_ | refine i_s0 rfl ?_ | refine c_leaf ?_ | refine i_gt rfl ?_ | refine i_gf rfl ?_ | refine i_gd rfl ?_ | refine c_t rfl ?_ | refine c_f rfl ?_ | refine i_conv rfl (by simp only [InR, List.length_map]; omega) ?_ | refine i_add rfl rfl (by simp only [InR, List.length_map]; omega) ?_ | refine i_sub rfl rfl (by simp only [InR, List.length_map]; omega) ?_ | refine i_ixm rfl rfl (by assumption) ?_ | refine i_iai rfl rfl (by omega) (by assumption) rfl ?_ | refine i_iam rfl rfl (by assumption) rfl ?_ | refine i_tk rfl rfl (by omega) ?_ | refine i_stb rfl ?_ | refine i_alloc rfl ?_ | refine i_box rfl rfl ?_ | refine i_nv rfl ?_)
    refine i_appmM add rfl rfl rfl rfl rfl (fun c hc => ⟨rfl, rfl⟩) (by omega) (by omega) ?_
    refine i_s rfl ?_
    refine i_nil ?_
    refine e_seq ?_
    refine c_cut [(7, .msl 4032449 (F.length + 1) 0 (F ++ add).length)] [(4032449, .arr (F.length + 1) ((F ++ add).map i64V))] ⟨by repeat (first | exact trivial | refine ⟨rfl, ?_⟩), by repeat (first | exact trivial | refine ⟨rfl, ?_⟩), rfl⟩ ?_
    have hla : (F ++ add).length ≤ 35184372088 := by simp; omega
    generalize F ++ add = L at *
    repeat (first | refine i_len rfl ?_ | refine i_s rfl ?_ | refine i_lenm rfl rfl rfl ?_ | refine c_seq ?_ | refine c_cut0 ?_ | refine c_ops ?_ | refine i_nil ?_ | refine e_seq ?_ | refine e_block ?_ | refine c_block ?_ | refine c_skip ?_ | refine c_ret ?_ | refine c_exit ?_ | refine e_exit rfl ?_ | refine i_s0 rfl ?_ | refine c_leaf ?_ | refine i_gt rfl ?_ | refine i_gf rfl ?_ | refine i_gd rfl ?_ | refine c_t rfl ?_ | refine c_f rfl ?_ | refine i_conv rfl (by simp only [InR, List.length_map]; omega) ?_ | refine i_add rfl rfl (by simp only [InR, List.length_map]; omega) ?_ | refine i_sub rfl rfl (by simp only [InR, List.length_map]; omega) ?_ | refine i_ixm rfl rfl (by assumption) ?_ | refine i_iai rfl rfl (by omega) (by assumption) rfl ?_ | refine i_iam rfl rfl (by assumption) rfl ?_ | refine i_tk rfl rfl (by omega) ?_ | refine i_stb rfl ?_ | refine i_alloc rfl ?_ | refine i_box rfl rfl ?_ | refine i_nv rfl ?_)
    refine i_c rfl rfl rfl (c_Sort 4032449 (F.length + 1) L rfl rfl (fun nm h => restr_mem nm h) (by omega)) ?_
    rintro _ _ _ ⟨rfl, rfl, rfl⟩
    refine i_nil ?_
    refine e_seq ?_
    refine c_cut [(7, .msl 4032449 (F.length + 1) 0 (srtL L).length)] [(4032449, .arr (F.length + 1) ((srtL L).map i64V))] ⟨⟨?_, trivial⟩, ⟨rfl, trivial⟩, rfl⟩ ?_
    · rw [srtL_len]; rfl
    repeat (first | refine i_len rfl ?_ | refine i_s rfl ?_ | refine i_lenm rfl rfl rfl ?_ | refine c_seq ?_ | refine c_cut0 ?_ | refine c_ops ?_ | refine i_nil ?_ | refine e_seq ?_ | refine e_block ?_ | refine c_block ?_ | refine c_skip ?_ | refine c_ret ?_ | refine c_exit ?_ | refine e_exit rfl ?_ | refine i_s0 rfl ?_ | refine c_leaf ?_ | refine i_gt rfl ?_ | refine i_gf rfl ?_ | refine i_gd rfl ?_ | refine c_t rfl ?_ | refine c_f rfl ?_ | refine i_conv rfl (by simp only [InR, List.length_map]; omega) ?_ | refine i_add rfl rfl (by simp only [InR, List.length_map]; omega) ?_ | refine i_sub rfl rfl (by simp only [InR, List.length_map]; omega) ?_ | refine i_ixm rfl rfl (by assumption) ?_ | refine i_iai rfl rfl (by omega) (by assumption) rfl ?_ | refine i_iam rfl rfl (by assumption) rfl ?_ | refine i_tk rfl rfl (by omega) ?_ | refine i_stb rfl ?_ | refine i_alloc rfl ?_ | refine i_box rfl rfl ?_ | refine i_nv rfl ?_)
    refine i_c rfl rfl rfl (c_Compact (F.length + 1) (srtL L) (by rw [srtL_len]; omega) _ _ rfl (fun nm h => restr_mem nm h)) ?_
    rintro _ _ _ ⟨⟨rows, rfl, rfl, hr⟩, rfl⟩
    repeat (first | refine i_len rfl ?_ | refine i_s rfl ?_ | refine i_lenm rfl rfl rfl ?_ | refine c_seq ?_ | refine c_cut0 ?_ | refine c_ops ?_ | refine i_nil ?_ | refine e_seq ?_ | refine e_block ?_ | refine c_block ?_ | refine c_skip ?_ | refine c_ret ?_ | refine c_exit ?_ | refine e_exit rfl ?_ | refine i_s0 rfl ?_ | refine c_leaf ?_ | refine i_gt rfl ?_ | refine i_gf rfl ?_ | refine i_gd rfl ?_ | refine c_t rfl ?_ | refine c_f rfl ?_ | refine i_conv rfl (by simp only [InR, List.length_map]; omega) ?_ | refine i_add rfl rfl (by simp only [InR, List.length_map]; omega) ?_ | refine i_sub rfl rfl (by simp only [InR, List.length_map]; omega) ?_ | refine i_ixm rfl rfl (by assumption) ?_ | refine i_iai rfl rfl (by omega) (by assumption) rfl ?_ | refine i_iam rfl rfl (by assumption) rfl ?_ | refine i_tk rfl rfl (by omega) ?_ | refine i_stb rfl ?_ | refine i_alloc rfl ?_ | refine i_box rfl rfl ?_ | refine i_nv rfl ?_)
    exact e_ret ⟨rfl, _, rfl, ((er_msl (rows := rows) (i := 0) (len := (compL (srtL L)).length) (n := 5) rfl).trans (by rw [List.drop_zero, hr])).symm⟩
def c_strips_Can : Cmd :=
  (.seq
   (.ops [
   .op (some 3) none (.box 3648196 4 (.t 0)),
   .op (some 6) none (.mov (.c (.bool false)))])
   (.cut
   (.seq
   (.ops [
   .op (some 7) none (.mov (.t 1)),
   .op (some 8) none (.faddr 3 (.t 3)),
   .op (some 9) none (.load false 1 (.t 8)),
   .op (some 10) none (.mov (.t 2)),
   .op (some 11) none (.iaddr 4 (.t 9) (.t 10)),
   .op (some 12) none (.faddr 0 (.t 11)),
   .op (some 13) none (.load false 1 (.t 12)),
   .op (some 14) none (.call .f (.c (.fn 59 [])) [.t 7, .t 13]),
   .op (some 6) none (.mov (.t 14))])
   .ret)))
def r_strips_Can : List RVar := [.tmp 6]
def n_strips_Can : Nat := 15
theorem k_strips_Can : chkFn Go.Proofs.Try.prog 57 n_strips_Can r_strips_Can c_strips_Can = true := by kernel_rfl
theorem f_strips_Can (t : STask) (s : List Int) (hs : s.length ≤ 140737488355328) (hss : SS s) (op : Int) (h0 : 0 ≤ op) (o : SOp) (hc : t.ops[op.toNat]? = some o) (hl : o.pre.length ≤ 140737488355328) (hp : SS o.pre) : Fc Go.Proofs.Try.prog 57 [skV t, .sl .p (s.map i64V), .int .i64 op] (.bool (inclB o.pre s)) := by
  have h1 := f_strips_Contains s o.pre hs hl hss hp
  refine Fn.step mixed k_strips_Can ?_
  repeat' (first | refine i_len rfl ?_ | refine i_s rfl ?_ | refine i_lenm rfl rfl rfl ?_ | refine c_seq ?_ | refine c_cut0 ?_ | refine c_ops ?_ | refine i_nil ?_ | refine e_seq ?_ | refine e_block ?_ | refine c_block ?_ | refine c_skip ?_ | refine c_ret ?_ | refine c_exit ?_ | refine e_exit rfl ?_ | refine i_s0 rfl ?_ | refine c_leaf ?_ | refine i_gt rfl ?_ | refine i_gf rfl ?_ | refine i_gd rfl ?_ | refine c_t rfl ?_ | refine c_f rfl ?_ | refine i_conv rfl (by simp only [InR, List.length_map]; omega) ?_ | refine i_add rfl rfl (by simp only [InR, List.length_map]; omega) ?_ | refine i_sub rfl rfl (by simp only [InR, List.length_map]; omega) ?_ | refine i_ixm rfl rfl (by assumption) ?_ | refine i_iai rfl rfl (by omega) (by assumption) rfl ?_ | refine i_iam rfl rfl (by assumption) rfl ?_ | refine i_tk rfl rfl (by omega) ?_ | refine i_stb rfl ?_ | refine i_alloc rfl ?_ | refine i_box rfl rfl ?_ | refine i_nv rfl ?_ | refine c_node ?_ ?_ | refine i_g rfl (fun h => ?_) (fun h => ?_) | refine c_cond rfl (fun h => ?_) (fun h => ?_) | refine i_f rfl rfl (h1) rfl ?_)
  exact e_ret ⟨rfl, _, rfl, rfl⟩
def c_strips_Next : Cmd :=
  (.seq
   (.ops [
   .op (some 3) none (.box 3712196 4 (.t 0)),
   .op (some 6) none (.mov (.c (.sl .nil [])))])
   (.cut
   (.seq
   (.ops [
   .op (some 8) none (.faddr 3 (.t 3)),
   .op (some 9) none (.load false 1 (.t 8)),
   .op (some 10) none (.mov (.t 2)),
   .op (some 11) none (.iaddr 4 (.t 9) (.t 10)),
   .op (some 12) none (.load true 4 (.t 11)),
   .op (some 7) none (.alloc 3712452 (.agg [.sl .nil [], .sl .nil [], .sl .nil [], .int .i64 (0)])),
   .op none none (.store 4 (.t 7) (.t 12))])
   (.cut
   (.seq
   (.ops [
   .op (some 13) none (.mov (.t 1)),
   .op (some 14) none (.faddr 1 (.t 7)),
   .op (some 15) none (.load false 1 (.t 14)),
   .op (some 16) none (.faddr 2 (.t 7)),
   .op (some 17) none (.load false 1 (.t 16)),
   .op (some 18) none (.call .f (.c (.fn 63 [])) [.t 13, .t 15, .t 17]),
   .op (some 6) none (.mov (.t 18))])
   .ret)))))
def r_strips_Next : List RVar := [.tmp 6]
def n_strips_Next : Nat := 19
theorem k_strips_Next : chkFn Go.Proofs.Try.prog 58 n_strips_Next r_strips_Next c_strips_Next = true := by kernel_rfl
theorem f_strips_Next (t : STask) (s : List Int) (hs : s.length ≤ 17592186044) (op : Int) (h0 : 0 ≤ op) (o : SOp) (hc : t.ops[op.toNat]? = some o) (ha : o.add.length ≤ 17592186044) (hd : o.del.length ≤ 17592186044) (hdel : SS o.del) : Fc Go.Proofs.Try.prog 58 [skV t, .sl .p (s.map i64V), .int .i64 op] (.sl .p ((updL s o.add o.del).map i64V)) := by
  have h1 := f_strips_Update s o.add o.del hs ha hd hdel
  refine Fn.step mixed k_strips_Next ?_
  repeat' (first | refine i_len rfl ?_ | refine i_s rfl ?_ | refine i_lenm rfl rfl rfl ?_ | refine c_seq ?_ | refine c_cut0 ?_ | refine c_ops ?_ | refine i_nil ?_ | refine e_seq ?_ | refine e_block ?_ | refine c_block ?_ | refine c_skip ?_ | refine c_ret ?_ | refine c_exit ?_ | refine e_exit rfl ?_ | refine i_s0 rfl ?_ | refine c_leaf ?_ | refine i_gt rfl ?_ | refine i_gf rfl ?_ | refine i_gd rfl ?_ | refine c_t rfl ?_ | refine c_f rfl ?_ | refine i_conv rfl (by simp only [InR, List.length_map]; omega) ?_ | refine i_add rfl rfl (by simp only [InR, List.length_map]; omega) ?_ | refine i_sub rfl rfl (by simp only [InR, List.length_map]; omega) ?_ | refine i_ixm rfl rfl (by assumption) ?_ | refine i_iai rfl rfl (by omega) (by assumption) rfl ?_ | refine i_iam rfl rfl (by assumption) rfl ?_ | refine i_tk rfl rfl (by omega) ?_ | refine i_stb rfl ?_ | refine i_alloc rfl ?_ | refine i_box rfl rfl ?_ | refine i_nv rfl ?_ | refine c_node ?_ ?_ | refine i_g rfl (fun h => ?_) (fun h => ?_) | refine c_cond rfl (fun h => ?_) (fun h => ?_) | refine i_f rfl rfl (h1) rfl ?_)
  exact e_ret ⟨rfl, _, rfl, rfl⟩
end Hm
end

section
/- Multi-valued tasks: what the functions answer, in plain terms. No program in sight. -/
namespace Hm
set_option linter.unusedVariables false
set_option linter.unusedSimpArgs false
open Go
structure Asg where
  var : Int
  value : Int
structure MOp where
  pre : List Asg
  post : List Asg
  cost : Int
structure MTask where
  sizes : List Int
  init : List Int
  goal : List Asg
  ops : List MOp
def asV (a : Asg) : V := .agg [.int .i64 a.var, .int .i64 a.value]
def moV (o : MOp) : V := .agg [.sl .p (o.pre.map asV), .sl .p (o.post.map asV), .int .i64 o.cost]
def mtV (m : MTask) : V := .agg [.sl .p (m.sizes.map i64V), .sl .p (m.init.map i64V), .sl .p (m.goal.map asV), .sl .p (m.ops.map moV)]
def mtZ : V := .agg [.sl .nil [], .sl .nil [], .sl .nil [], .sl .nil []]
def stAt (sizes s : List Int) (v : Nat) : Bool := match s[v]?, sizes[v]? with
  | some x, some z => decide (0 ≤ x) && decide (x < z)
  | _, _ => false
def stB (sizes s : List Int) : Bool := decide (s.length = sizes.length) && allN (stAt sizes s) s.length
/-- The assignment before, at a place. -/
def asPrev (l : List Asg) (i : Nat) (v : Int) : Bool := match l[i - 1]? with
  | some b => decide (b.var < v)
  | none => true
def szAt (sizes : List Int) (v : Int) : Option Int := if v < 0 then none else sizes[v.toNat]?
def asAt (sizes : List Int) (l : List Asg) (i : Nat) : Bool := match l[i]? with
  | none => false
  | some a => match szAt sizes a.var with
    | none => false
    | some z => decide (0 ≤ a.value) && decide (a.value < z) && (decide (i = 0) || asPrev l i a.var)
def asB (sizes : List Int) (l : List Asg) : Bool := allN (asAt sizes l) l.length
def opBad (sizes : List Int) (ops : List MOp) (i : Nat) : Option Flt := match ops[i]? with
  | none => none
  | some o => if asB sizes o.pre = false ∨ asB sizes o.post = false then some ⟨5, i⟩ else if o.cost < 0 ∨ o.cost > 100 then some ⟨3, i⟩ else none
def szBad (n : Int) : Bool := decide (n < 1) || decide (n > 6)
def mFault (m : MTask) : Flt := if m.sizes.length = 0 ∨ m.sizes.length > 8 then ⟨2, -1⟩ else if m.sizes.any szBad = true then ⟨3, -1⟩ else if stB m.sizes m.init = false then ⟨5, -2⟩ else if asB m.sizes m.goal = false then ⟨5, -3⟩
  else if m.ops.length > 40 then ⟨2, -1⟩ else (scan (opBad m.sizes m.ops) 0 m.ops.length).getD okF
def holdAt (s : List Int) (a : Asg) : Bool := match szAt s a.var with
  | some x => x == a.value
  | none => false
def holds (s : List Int) (l : List Asg) : Bool := l.all (holdAt s)
def setAll (s : List Int) (l : List Asg) : List Int := l.foldl (fun s a => s.set a.var.toNat a.value) s
/-- Numbers of memory that can be. -/
def MOk (m : MTask) : Prop := m.sizes.length ≤ 140737488355328 ∧ m.init.length ≤ 140737488355328 ∧ m.goal.length ≤ 140737488355328 ∧ m.ops.length ≤ 140737488355328 ∧ ∀ o ∈ m.ops, o.pre.length ≤ 140737488355328 ∧ o.post.length ≤ 140737488355328
end Hm
end

section
/- Contracts: states and assignments of multi-valued tasks. -/
namespace Hm
open Go
set_option maxRecDepth 100000
set_option maxHeartbeats 1000000
set_option linter.unusedSimpArgs false
set_option linter.unusedVariables false
def c_R1_MultiState : Cmd :=
  (.seq
   (.ops [
   .op (some 2) none (.box 704132 4 (.t 0)),
   .op (some 4) none (.mov (.c (.bool false)))])
   (.cut
   (.seq
   (.seq
   (.ops [
   .op (some 6) none (.mov (.t 1)),
   .op (some 7) none (.len false (.t 6)),
   .op (some 8) none (.faddr 0 (.t 2)),
   .op (some 9) none (.load false 1 (.t 8)),
   .op (some 10) none (.len false (.t 9)),
   .op (some 11) none (.bin .neq false [.i] (.t 7) (.t 10))])
   (.cut
   (.cond (.t 11)
   (.seq
   (.ops [
   .op (some 4) none (.mov (.c (.bool false)))])
   .ret)
   .skip)))
   (.cut
   (.seq
   (.seq
   (.ops [
   .op (some 5) none (.mov (.c (.int .i64 (0))))])
   (.cut
   (.block 0
   (.loop
   (.seq
   (.seq
   (.ops [
   .op (some 12) none (.mov (.t 5)),
   .op (some 13) none (.mov (.t 1)),
   .op (some 14) none (.len false (.t 13)),
   .op (some 15) none (.bin .lss false [] (.t 12) (.t 14))])
   (.cut
   (.cond (.t 15)
   .skip
   (.exit 0))))
   (.cut
   (.seq
   (.block 1
   (.seq
   (.ops [
   .op (some 18) none (.mov (.t 1)),
   .op (some 19) none (.mov (.t 5)),
   .op (some 20) none (.iaddr 1 (.t 18) (.t 19)),
   .op (some 21) none (.load false 1 (.t 20)),
   .op (some 22) none (.faddr 0 (.t 2)),
   .op (some 23) none (.load false 1 (.t 22)),
   .op (some 24) none (.mov (.t 5)),
   .op (some 25) none (.iaddr 1 (.t 23) (.t 24)),
   .op (some 26) none (.load false 1 (.t 25)),
   .op (some 27) none (.bin .sub false [] (.t 26) (.c (.int .i64 (1)))),
   .op (some 28) none (.call .f (.c (.fn 16 [])) [.t 21, .c (.int .i64 (0)), .t 27]),
   .op (some 29) none (.not (.t 28))])
   (.cut
   (.cond (.t 29)
   (.seq
   (.ops [
   .op (some 4) none (.mov (.c (.bool false)))])
   .ret)
   .skip))))
   (.cut
   (.ops [
   .op (some 16) none (.mov (.t 5)),
   .op (some 17) none (.bin .add false [] (.t 16) (.c (.int .i64 (1)))),
   .op (some 5) none (.mov (.t 17))])))))))))
   (.cut
   (.seq
   (.ops [
   .op (some 4) none (.mov (.c (.bool true)))])
   .ret)))))))
def r_R1_MultiState : List RVar := [.tmp 4]
def n_R1_MultiState : Nat := 30
theorem k_R1_MultiState : chkFn Go.Proofs.Try.prog 11 n_R1_MultiState r_R1_MultiState c_R1_MultiState = true := by kernel_rfl
theorem f_R1_MultiState (m : MTask) (s : List Int) (hs : s.length ≤ 140737488355328) (hz : ∀ z ∈ m.sizes, 1 ≤ z ∧ z ≤ 6) : Fc Go.Proofs.Try.prog 11 [mtV m, .sl .p (s.map i64V)] (.bool (stB m.sizes s)) := by
  refine Fn.step mixed k_R1_MultiState ?_
  repeat' (first | refine i_len rfl ?_ | refine i_s rfl ?_ | refine i_lenm rfl rfl rfl ?_ | refine c_seq ?_ | refine c_cut0 ?_ | refine c_ops ?_ | refine i_nil ?_ | refine e_seq ?_ | refine e_block ?_ | refine c_block ?_ | refine c_skip ?_ | refine c_ret ?_ | refine c_exit ?_ | refine e_exit rfl ?_ | refine i_s0 rfl ?_ | refine c_leaf ?_ | refine i_gt rfl ?_ | refine i_gf rfl ?_ | refine i_gd rfl ?_ | refine c_t rfl ?_ | refine c_f rfl ?_ | refine i_conv rfl (by simp only [InR, List.length_map]; omega) ?_ | refine i_add rfl rfl (by simp only [InR, List.length_map]; omega) ?_ | refine i_sub rfl rfl (by simp only [InR, List.length_map]; omega) ?_ | refine i_ixm rfl rfl (by assumption) ?_ | refine i_iai rfl rfl (by omega) (by assumption) rfl ?_ | refine i_iam rfl rfl (by assumption) rfl ?_ | refine i_tk rfl rfl (by omega) ?_ | refine i_stb rfl ?_ | refine i_alloc rfl ?_ | refine i_box rfl rfl ?_ | refine i_nv rfl ?_ | refine c_node ?_ ?_ | refine i_g rfl (fun h => ?_) (fun h => ?_) | refine c_cond rfl (fun h => ?_) (fun h => ?_))
  · have e : s.length ≠ m.sizes.length := by simp at h; omega
    exact e_ret ⟨rfl, _, rfl, congrArg V.bool (by simp [stB, e])⟩
  have e : s.length = m.sizes.length := by simp at h; omega
  clear h
  refine c_for s.length (fun k => [(1, .sl .p (s.map i64V)), (2, .bptr 704132 0), (5, .int .i64 k)]) (fun _ => [(704132, .box (mtV m))]) (fun k => ∀ j, j < k → stAt m.sizes s j = true) all_zero ⟨by repeat (first | exact trivial | refine ⟨rfl, ?_⟩), by repeat (first | exact trivial | refine ⟨rfl, ?_⟩), rfl⟩ fun k hk hi => ?_
  repeat (first | refine i_len rfl ?_ | refine i_s rfl ?_ | refine i_lenm rfl rfl rfl ?_ | refine c_seq ?_ | refine c_cut0 ?_ | refine c_ops ?_ | refine i_nil ?_ | refine e_seq ?_ | refine e_block ?_ | refine c_block ?_ | refine c_skip ?_ | refine c_ret ?_ | refine c_exit ?_ | refine e_exit rfl ?_ | refine i_s0 rfl ?_ | refine c_leaf ?_ | refine i_gt rfl ?_ | refine i_gf rfl ?_ | refine i_gd rfl ?_ | refine c_t rfl ?_ | refine c_f rfl ?_ | refine i_conv rfl (by simp only [InR, List.length_map]; omega) ?_ | refine i_add rfl rfl (by simp only [InR, List.length_map]; omega) ?_ | refine i_sub rfl rfl (by simp only [InR, List.length_map]; omega) ?_ | refine i_ixm rfl rfl (by assumption) ?_ | refine i_iai rfl rfl (by omega) (by assumption) rfl ?_ | refine i_iam rfl rfl (by assumption) rfl ?_ | refine i_tk rfl rfl (by omega) ?_ | refine i_stb rfl ?_ | refine i_alloc rfl ?_ | refine i_box rfl rfl ?_ | refine i_nv rfl ?_)
  refine c_cond rfl (fun h => ?_) (fun h => ?_)
  · have hlt : k < s.length := by simpa using h
    obtain ⟨x, hx⟩ := get_some hlt
    obtain ⟨z, hzz⟩ := get_some (e ▸ hlt)
    have hzb := hz z (mem_get hzz)
    have hat : stAt m.sizes s k = (decide (0 ≤ x) && decide (x < z)) := by simp [stAt, hx, hzz]
    clear h
    repeat' (first | refine i_len rfl ?_ | refine i_s rfl ?_ | refine i_lenm rfl rfl rfl ?_ | refine c_seq ?_ | refine c_cut0 ?_ | refine c_ops ?_ | refine i_nil ?_ | refine e_seq ?_ | refine e_block ?_ | refine c_block ?_ | refine c_skip ?_ | refine c_ret ?_ | refine c_exit ?_ | refine e_exit rfl ?_ | refine i_s0 rfl ?_ | refine c_leaf ?_ | refine i_gt rfl ?_ | refine i_gf rfl ?_ | refine i_gd rfl ?_ | refine c_t rfl ?_ | refine c_f rfl ?_ | refine i_conv rfl (by simp only [InR, List.length_map]; omega) ?_ | refine i_add rfl rfl (by simp only [InR, List.length_map]; omega) ?_ | refine i_sub rfl rfl (by simp only [InR, List.length_map]; omega) ?_ | refine i_ixm rfl rfl (by assumption) ?_ | refine i_iai rfl rfl (by omega) (by assumption) rfl ?_ | refine i_iam rfl rfl (by assumption) rfl ?_ | refine i_tk rfl rfl (by omega) ?_ | refine i_stb rfl ?_ | refine i_alloc rfl ?_ | refine i_box rfl rfl ?_ | refine i_nv rfl ?_ | refine c_node ?_ ?_ | refine i_g rfl (fun h => ?_) (fun h => ?_) | refine c_cond rfl (fun h => ?_) (fun h => ?_) | refine i_f rfl rfl (f_R1_In _ _ _) rfl ?_)
    · refine e_ret ⟨rfl, _, rfl, congrArg V.bool ?_⟩
      have : stAt m.sizes s k = false := by rw [hat]; grind
      simp [stB, allN_bad hlt this]
    · exact e_for hlt (all_succ hi (by rw [hat]; grind)) ⟨by repeat (first | exact trivial | refine ⟨rfl, ?_⟩), by repeat (first | exact trivial | refine ⟨rfl, ?_⟩), rfl⟩
  · have hge : ¬ k < s.length := by simpa using h
    repeat' (first | refine i_len rfl ?_ | refine i_s rfl ?_ | refine i_lenm rfl rfl rfl ?_ | refine c_seq ?_ | refine c_cut0 ?_ | refine c_ops ?_ | refine i_nil ?_ | refine e_seq ?_ | refine e_block ?_ | refine c_block ?_ | refine c_skip ?_ | refine c_ret ?_ | refine c_exit ?_ | refine e_exit rfl ?_ | refine i_s0 rfl ?_ | refine c_leaf ?_ | refine i_gt rfl ?_ | refine i_gf rfl ?_ | refine i_gd rfl ?_ | refine c_t rfl ?_ | refine c_f rfl ?_ | refine i_conv rfl (by simp only [InR, List.length_map]; omega) ?_ | refine i_add rfl rfl (by simp only [InR, List.length_map]; omega) ?_ | refine i_sub rfl rfl (by simp only [InR, List.length_map]; omega) ?_ | refine i_ixm rfl rfl (by assumption) ?_ | refine i_iai rfl rfl (by omega) (by assumption) rfl ?_ | refine i_iam rfl rfl (by assumption) rfl ?_ | refine i_tk rfl rfl (by omega) ?_ | refine i_stb rfl ?_ | refine i_alloc rfl ?_ | refine i_box rfl rfl ?_ | refine i_nv rfl ?_ | refine c_node ?_ ?_ | refine i_g rfl (fun h => ?_) (fun h => ?_) | refine c_cond rfl (fun h => ?_) (fun h => ?_))
    exact e_ret ⟨rfl, _, rfl, congrArg V.bool (by simp [stB, e]; exact allN_ok fun j hj => hi j (by omega))⟩
def c_multi_IsState : Cmd :=
  (.seq
   (.ops [
   .op (some 2) none (.box 2304132 4 (.t 0)),
   .op (some 4) none (.mov (.c (.bool false)))])
   (.cut
   (.seq
   (.seq
   (.ops [
   .op (some 7) none (.mov (.t 1)),
   .op (some 8) none (.len false (.t 7)),
   .op (some 9) none (.faddr 0 (.t 2)),
   .op (some 10) none (.load false 1 (.t 9)),
   .op (some 11) none (.len false (.t 10)),
   .op (some 12) none (.bin .neq false [.i] (.t 8) (.t 11))])
   (.cut
   (.cond (.t 12)
   (.seq
   (.ops [
   .op (some 4) none (.mov (.c (.bool false)))])
   .ret)
   .skip)))
   (.cut
   (.seq
   (.seq
   (.ops [
   .op (some 13) none (.mov (.t 1)),
   .op (some 14) none (.len false (.t 13)),
   .op (some 15) none (.mov (.c (.int .i64 (0))))])
   (.cut
   (.block 0
   (.loop
   (.seq
   (.ops [
   .op (some 16) none (.bin .lss false [] (.t 15) (.t 14))])
   (.cut
   (.seq
   (.cond (.t 16)
   .skip
   (.exit 0))
   (.cut
   (.seq
   (.block 1
   (.seq
   (.ops [
   .op (some 17) none (.mov (.t 15)),
   .op (some 18) none (.iaddr 1 (.t 13) (.t 15)),
   .op (some 19) none (.load false 1 (.t 18)),
   .op (some 5) none (.mov (.t 17)),
   .op (some 6) none (.mov (.t 19))])
   (.cut
   (.seq
   (.ops [
   .op (some 20) none (.mov (.t 6)),
   .op (some 21) none (.bin .lss false [] (.t 20) (.c (.int .i64 (0)))),
   .op (some 22) none (.mov (.t 21)),
   .op (some 23) (some (22, false)) (.mov (.t 6)),
   .op (some 24) (some (22, false)) (.faddr 0 (.t 2)),
   .op (some 25) (some (22, false)) (.load false 1 (.t 24)),
   .op (some 26) (some (22, false)) (.mov (.t 5)),
   .op (some 27) (some (22, false)) (.iaddr 1 (.t 25) (.t 26)),
   .op (some 28) (some (22, false)) (.load false 1 (.t 27)),
   .op (some 29) (some (22, false)) (.bin .geq false [] (.t 23) (.t 28)),
   .op (some 30) none (.pick (.t 22) (.c (.bool true)) (.t 29))])
   (.cut
   (.cond (.t 30)
   (.seq
   (.ops [
   .op (some 4) none (.mov (.c (.bool false)))])
   .ret)
   .skip))))))
   (.cut
   (.ops [
   .op (some 31) none (.bin .add false [] (.t 15) (.c (.int .i64 (1)))),
   .op (some 15) none (.mov (.t 31))])))))))))))
   (.cut
   (.seq
   (.ops [
   .op (some 4) none (.mov (.c (.bool true)))])
   .ret)))))))
def r_multi_IsState : List RVar := [.tmp 4]
def n_multi_IsState : Nat := 32
theorem k_multi_IsState : chkFn Go.Proofs.Try.prog 36 n_multi_IsState r_multi_IsState c_multi_IsState = true := by kernel_rfl
theorem f_multi_IsState (m : MTask) (s : List Int) (hs : s.length ≤ 140737488355328) : Fc Go.Proofs.Try.prog 36 [mtV m, .sl .p (s.map i64V)] (.bool (stB m.sizes s)) := by
  refine Fn.step mixed k_multi_IsState ?_
  repeat' (first | refine i_len rfl ?_ | refine i_s rfl ?_ | refine i_lenm rfl rfl rfl ?_ | refine c_seq ?_ | refine c_cut0 ?_ | refine c_ops ?_ | refine i_nil ?_ | refine e_seq ?_ | refine e_block ?_ | refine c_block ?_ | refine c_skip ?_ | refine c_ret ?_ | refine c_exit ?_ | refine e_exit rfl ?_ | refine i_s0 rfl ?_ | refine c_leaf ?_ | refine i_gt rfl ?_ | refine i_gf rfl ?_ | refine i_gd rfl ?_ | refine c_t rfl ?_ | refine c_f rfl ?_ | refine i_conv rfl (by simp only [InR, List.length_map]; omega) ?_ | refine i_add rfl rfl (by simp only [InR, List.length_map]; omega) ?_ | refine i_sub rfl rfl (by simp only [InR, List.length_map]; omega) ?_ | refine i_ixm rfl rfl (by assumption) ?_ | refine i_iai rfl rfl (by omega) (by assumption) rfl ?_ | refine i_iam rfl rfl (by assumption) rfl ?_ | refine i_tk rfl rfl (by omega) ?_ | refine i_stb rfl ?_ | refine i_alloc rfl ?_ | refine i_box rfl rfl ?_ | refine i_nv rfl ?_ | refine c_node ?_ ?_ | refine i_g rfl (fun h => ?_) (fun h => ?_) | refine c_cond rfl (fun h => ?_) (fun h => ?_))
  · have e : s.length ≠ m.sizes.length := by simp at h; omega
    exact e_ret ⟨rfl, _, rfl, congrArg V.bool (by simp [stB, e])⟩
  have e : s.length = m.sizes.length := by simp at h; omega
  clear h
  refine c_for s.length (fun k => [(2, .bptr 2304132 0), (13, .sl .p (s.map i64V)), (14, .int .i64 s.length), (15, .int .i64 k)]) (fun _ => [(2304132, .box (mtV m))]) (fun k => ∀ j, j < k → stAt m.sizes s j = true) all_zero ⟨by repeat (first | exact trivial | refine ⟨rfl, ?_⟩), by repeat (first | exact trivial | refine ⟨rfl, ?_⟩), rfl⟩ fun k hk hi => ?_
  repeat (first | refine i_len rfl ?_ | refine i_s rfl ?_ | refine i_lenm rfl rfl rfl ?_ | refine c_seq ?_ | refine c_cut0 ?_ | refine c_ops ?_ | refine i_nil ?_ | refine e_seq ?_ | refine e_block ?_ | refine c_block ?_ | refine c_skip ?_ | refine c_ret ?_ | refine c_exit ?_ | refine e_exit rfl ?_ | refine i_s0 rfl ?_ | refine c_leaf ?_ | refine i_gt rfl ?_ | refine i_gf rfl ?_ | refine i_gd rfl ?_ | refine c_t rfl ?_ | refine c_f rfl ?_ | refine i_conv rfl (by simp only [InR, List.length_map]; omega) ?_ | refine i_add rfl rfl (by simp only [InR, List.length_map]; omega) ?_ | refine i_sub rfl rfl (by simp only [InR, List.length_map]; omega) ?_ | refine i_ixm rfl rfl (by assumption) ?_ | refine i_iai rfl rfl (by omega) (by assumption) rfl ?_ | refine i_iam rfl rfl (by assumption) rfl ?_ | refine i_tk rfl rfl (by omega) ?_ | refine i_stb rfl ?_ | refine i_alloc rfl ?_ | refine i_box rfl rfl ?_ | refine i_nv rfl ?_)
  refine c_cond rfl (fun h => ?_) (fun h => ?_)
  · have hlt : k < s.length := by simpa using h
    obtain ⟨x, hx⟩ := get_some hlt
    obtain ⟨z, hzz⟩ := get_some (e ▸ hlt)
    have hat : stAt m.sizes s k = (decide (0 ≤ x) && decide (x < z)) := by simp [stAt, hx, hzz]
    clear h
    repeat' (first | refine i_len rfl ?_ | refine i_s rfl ?_ | refine i_lenm rfl rfl rfl ?_ | refine c_seq ?_ | refine c_cut0 ?_ | refine c_ops ?_ | refine i_nil ?_ | refine e_seq ?_ | refine e_block ?_ | refine c_block ?_ | refine c_skip ?_ | refine c_ret ?_ | refine c_exit ?_ | refine e_exit rfl ?_ | refine i_s0 rfl ?_ | refine c_leaf ?_ | refine i_gt rfl ?_ | refine i_gf rfl ?_ | refine i_gd rfl ?_ | refine c_t rfl ?_ | refine c_f rfl ?_ | refine i_conv rfl (by simp only [InR, List.length_map]; omega) ?_ | refine i_add rfl rfl (by simp only [InR, List.length_map]; omega) ?_ | refine i_sub rfl rfl (by simp only [InR, List.length_map]; omega) ?_ | refine i_ixm rfl rfl (by assumption) ?_ | refine i_iai rfl rfl (by omega) (by assumption) rfl ?_ | refine i_iam rfl rfl (by assumption) rfl ?_ | refine i_tk rfl rfl (by omega) ?_ | refine i_stb rfl ?_ | refine i_alloc rfl ?_ | refine i_box rfl rfl ?_ | refine i_nv rfl ?_ | refine c_node ?_ ?_ | refine i_g rfl (fun h => ?_) (fun h => ?_) | refine c_cond rfl (fun h => ?_) (fun h => ?_))
    all_goals first
      | exact e_for hlt (all_succ hi (by rw [hat]; grind)) ⟨by repeat (first | exact trivial | refine ⟨rfl, ?_⟩), by repeat (first | exact trivial | refine ⟨rfl, ?_⟩), rfl⟩
      | refine e_ret ⟨rfl, _, rfl, congrArg V.bool ?_⟩
        have : stAt m.sizes s k = false := by rw [hat]; grind
        simp [stB, allN_bad hlt this]
  · have hge : ¬ k < s.length := by simpa using h
    repeat' (first | refine i_len rfl ?_ | refine i_s rfl ?_ | refine i_lenm rfl rfl rfl ?_ | refine c_seq ?_ | refine c_cut0 ?_ | refine c_ops ?_ | refine i_nil ?_ | refine e_seq ?_ | refine e_block ?_ | refine c_block ?_ | refine c_skip ?_ | refine c_ret ?_ | refine c_exit ?_ | refine e_exit rfl ?_ | refine i_s0 rfl ?_ | refine c_leaf ?_ | refine i_gt rfl ?_ | refine i_gf rfl ?_ | refine i_gd rfl ?_ | refine c_t rfl ?_ | refine c_f rfl ?_ | refine i_conv rfl (by simp only [InR, List.length_map]; omega) ?_ | refine i_add rfl rfl (by simp only [InR, List.length_map]; omega) ?_ | refine i_sub rfl rfl (by simp only [InR, List.length_map]; omega) ?_ | refine i_ixm rfl rfl (by assumption) ?_ | refine i_iai rfl rfl (by omega) (by assumption) rfl ?_ | refine i_iam rfl rfl (by assumption) rfl ?_ | refine i_tk rfl rfl (by omega) ?_ | refine i_stb rfl ?_ | refine i_alloc rfl ?_ | refine i_box rfl rfl ?_ | refine i_nv rfl ?_ | refine c_node ?_ ?_ | refine i_g rfl (fun h => ?_) (fun h => ?_) | refine c_cond rfl (fun h => ?_) (fun h => ?_))
    exact e_ret ⟨rfl, _, rfl, congrArg V.bool (by simp [stB, e]; exact allN_ok fun j hj => hi j (by omega))⟩
end Hm
end

section
/- Contracts: searching; assignments. -/
namespace Hm
open Go
set_option maxRecDepth 100000
set_option maxHeartbeats 1000000
set_option linter.unusedSimpArgs false
set_option linter.unusedVariables false
def c_slices_IndexFunc_Assign : Cmd :=
  (.seq
   (.ops [
   .op (some 4) none (.mov (.c (.int .i64 (0))))])
   (.cut
   (.seq
   (.seq
   (.ops [
   .op (some 6) none (.mov (.t 0)),
   .op (some 7) none (.len false (.t 6)),
   .op (some 8) none (.mov (.c (.int .i64 (0))))])
   (.cut
   (.block 0
   (.loop
   (.seq
   (.ops [
   .op (some 9) none (.bin .lss false [] (.t 8) (.t 7))])
   (.cut
   (.seq
   (.cond (.t 9)
   .skip
   (.exit 0))
   (.cut
   (.seq
   (.block 1
   (.seq
   (.ops [
   .op (some 10) none (.mov (.t 8)),
   .op (some 5) none (.mov (.t 10))])
   (.cut
   (.seq
   (.ops [
   .op (some 11) none (.mov (.t 1)),
   .op (some 12) none (.mov (.t 0)),
   .op (some 13) none (.mov (.t 5)),
   .op (some 14) none (.iaddr 2 (.t 12) (.t 13)),
   .op (some 15) none (.load true 2 (.t 14)),
   .op (some 16) none (.call .f (.t 11) [.t 15])])
   (.cut
   (.cond (.t 16)
   (.seq
   (.ops [
   .op (some 17) none (.mov (.t 5)),
   .op (some 4) none (.mov (.t 17))])
   .ret)
   .skip))))))
   (.cut
   (.ops [
   .op (some 18) none (.bin .add false [] (.t 8) (.c (.int .i64 (1)))),
   .op (some 8) none (.mov (.t 18))])))))))))))
   (.cut
   (.seq
   (.ops [
   .op (some 4) none (.mov (.c (.int .i64 (-1))))])
   .ret)))))
def r_slices_IndexFunc_Assign : List RVar := [.tmp 4]
def n_slices_IndexFunc_Assign : Nat := 19
theorem k_slices_IndexFunc_Assign : chkFn Go.Proofs.Try.prog 60 n_slices_IndexFunc_Assign r_slices_IndexFunc_Assign c_slices_IndexFunc_Assign = true := by kernel_rfl
theorem f_IndexFunc_Assign (l : List Asg) (p : Asg → Bool) (fid : Nat) (caps : List V) (hl : l.length ≤ 140737488355328) (he : ∀ σ n, caps.map (er σ (n + 1)) = caps) (hc : closedL [] caps = true) (hp : ∀ t ∈ l, Fc Go.Proofs.Try.prog fid (asV t :: caps) (.bool (p t))) :
    Fc Go.Proofs.Try.prog 60 [.sl .p (l.map asV), .fn fid caps] (.int .i64 (fidx p l)) := by
  refine Fn.step mixed k_slices_IndexFunc_Assign ?_
  repeat (first | refine i_len rfl ?_ | refine i_s rfl ?_ | refine i_lenm rfl rfl rfl ?_ | refine c_seq ?_ | refine c_cut0 ?_ | refine c_ops ?_ | refine i_nil ?_ | refine e_seq ?_ | refine e_block ?_ | refine c_block ?_ | refine c_skip ?_ | refine c_ret ?_ | refine c_exit ?_ | refine e_exit rfl ?_ | refine i_s0 rfl ?_ | refine c_leaf ?_ | refine i_gt rfl ?_ | refine i_gf rfl ?_ | refine i_gd rfl ?_ | refine c_t rfl ?_ | refine c_f rfl ?_ | refine i_conv rfl (by simp only [InR, List.length_map]; omega) ?_ | refine i_add rfl rfl (by simp only [InR, List.length_map]; omega) ?_ | refine i_sub rfl rfl (by simp only [InR, List.length_map]; omega) ?_ | refine i_ixm rfl rfl (by assumption) ?_ | refine i_iai rfl rfl (by omega) (by assumption) rfl ?_ | refine i_iam rfl rfl (by assumption) rfl ?_ | refine i_tk rfl rfl (by omega) ?_ | refine i_stb rfl ?_ | refine i_alloc rfl ?_ | refine i_box rfl rfl ?_ | refine i_nv rfl ?_)
  refine c_for l.length (fun k => [(0, .sl .p (l.map asV)), (1, .fn fid caps), (7, .int .i64 l.length), (8, .int .i64 k)]) (fun _ => []) (fun k => ∀ j, j < k → ∀ c, l[j]? = some c → p c = false) all_zero ?_ fun k hk hi => ?_
  · exact ⟨⟨rfl, rfl, rfl, rfl, trivial⟩, trivial, by simp [fitB, closedE, closedB, hc, closedSt, hasAll]⟩
  repeat (first | refine i_len rfl ?_ | refine i_s rfl ?_ | refine i_lenm rfl rfl rfl ?_ | refine c_seq ?_ | refine c_cut0 ?_ | refine c_ops ?_ | refine i_nil ?_ | refine e_seq ?_ | refine e_block ?_ | refine c_block ?_ | refine c_skip ?_ | refine c_ret ?_ | refine c_exit ?_ | refine e_exit rfl ?_ | refine i_s0 rfl ?_ | refine c_leaf ?_ | refine i_gt rfl ?_ | refine i_gf rfl ?_ | refine i_gd rfl ?_ | refine c_t rfl ?_ | refine c_f rfl ?_ | refine i_conv rfl (by simp only [InR, List.length_map]; omega) ?_ | refine i_add rfl rfl (by simp only [InR, List.length_map]; omega) ?_ | refine i_sub rfl rfl (by simp only [InR, List.length_map]; omega) ?_ | refine i_ixm rfl rfl (by assumption) ?_ | refine i_iai rfl rfl (by omega) (by assumption) rfl ?_ | refine i_iam rfl rfl (by assumption) rfl ?_ | refine i_tk rfl rfl (by omega) ?_ | refine i_stb rfl ?_ | refine i_alloc rfl ?_ | refine i_box rfl rfl ?_ | refine i_nv rfl ?_)
  refine c_cond rfl (fun h => ?_) (fun h => ?_)
  · have hlt : k < l.length := by simpa using h
    obtain ⟨c, hget⟩ := get_some hlt
    repeat (first | refine i_len rfl ?_ | refine i_s rfl ?_ | refine i_lenm rfl rfl rfl ?_ | refine c_seq ?_ | refine c_cut0 ?_ | refine c_ops ?_ | refine i_nil ?_ | refine e_seq ?_ | refine e_block ?_ | refine c_block ?_ | refine c_skip ?_ | refine c_ret ?_ | refine c_exit ?_ | refine e_exit rfl ?_ | refine i_s0 rfl ?_ | refine c_leaf ?_ | refine i_gt rfl ?_ | refine i_gf rfl ?_ | refine i_gd rfl ?_ | refine c_t rfl ?_ | refine c_f rfl ?_ | refine i_conv rfl (by simp only [InR, List.length_map]; omega) ?_ | refine i_add rfl rfl (by simp only [InR, List.length_map]; omega) ?_ | refine i_sub rfl rfl (by simp only [InR, List.length_map]; omega) ?_ | refine i_ixm rfl rfl (by assumption) ?_ | refine i_iai rfl rfl (by omega) (by assumption) rfl ?_ | refine i_iam rfl rfl (by assumption) rfl ?_ | refine i_tk rfl rfl (by omega) ?_ | refine i_stb rfl ?_ | refine i_alloc rfl ?_ | refine i_box rfl rfl ?_ | refine i_nv rfl ?_)
    refine i_f rfl (congrArg (asV c :: ·) (he _ 5)) (hp c (mem_get hget)) rfl ?_
    repeat' (first | refine i_len rfl ?_ | refine i_s rfl ?_ | refine i_lenm rfl rfl rfl ?_ | refine c_seq ?_ | refine c_cut0 ?_ | refine c_ops ?_ | refine i_nil ?_ | refine e_seq ?_ | refine e_block ?_ | refine c_block ?_ | refine c_skip ?_ | refine c_ret ?_ | refine c_exit ?_ | refine e_exit rfl ?_ | refine i_s0 rfl ?_ | refine c_leaf ?_ | refine i_gt rfl ?_ | refine i_gf rfl ?_ | refine i_gd rfl ?_ | refine c_t rfl ?_ | refine c_f rfl ?_ | refine i_conv rfl (by simp only [InR, List.length_map]; omega) ?_ | refine i_add rfl rfl (by simp only [InR, List.length_map]; omega) ?_ | refine i_sub rfl rfl (by simp only [InR, List.length_map]; omega) ?_ | refine i_ixm rfl rfl (by assumption) ?_ | refine i_iai rfl rfl (by omega) (by assumption) rfl ?_ | refine i_iam rfl rfl (by assumption) rfl ?_ | refine i_tk rfl rfl (by omega) ?_ | refine i_stb rfl ?_ | refine i_alloc rfl ?_ | refine i_box rfl rfl ?_ | refine i_nv rfl ?_ | refine c_node ?_ ?_ | refine i_g rfl (fun h => ?_) (fun h => ?_) | refine c_cond rfl (fun h => ?_) (fun h => ?_))
    · refine e_ret ⟨rfl, _, rfl, congrArg (V.int .i64) (fidx_hit hi hget h)⟩
    · refine e_for hlt (all_succ hi fun c' hc' => ?_) ⟨⟨rfl, rfl, rfl, rfl, trivial⟩, trivial, by simp [fitB, closedE, closedB, hc, closedSt, hasAll]⟩
      rw [hget] at hc'; cases hc'; exact h
  · have hge : ¬ k < l.length := by simpa using h
    repeat' (first | refine i_len rfl ?_ | refine i_s rfl ?_ | refine i_lenm rfl rfl rfl ?_ | refine c_seq ?_ | refine c_cut0 ?_ | refine c_ops ?_ | refine i_nil ?_ | refine e_seq ?_ | refine e_block ?_ | refine c_block ?_ | refine c_skip ?_ | refine c_ret ?_ | refine c_exit ?_ | refine e_exit rfl ?_ | refine i_s0 rfl ?_ | refine c_leaf ?_ | refine i_gt rfl ?_ | refine i_gf rfl ?_ | refine i_gd rfl ?_ | refine c_t rfl ?_ | refine c_f rfl ?_ | refine i_conv rfl (by simp only [InR, List.length_map]; omega) ?_ | refine i_add rfl rfl (by simp only [InR, List.length_map]; omega) ?_ | refine i_sub rfl rfl (by simp only [InR, List.length_map]; omega) ?_ | refine i_ixm rfl rfl (by assumption) ?_ | refine i_iai rfl rfl (by omega) (by assumption) rfl ?_ | refine i_iam rfl rfl (by assumption) rfl ?_ | refine i_tk rfl rfl (by omega) ?_ | refine i_stb rfl ?_ | refine i_alloc rfl ?_ | refine i_box rfl rfl ?_ | refine i_nv rfl ?_ | refine c_node ?_ ?_ | refine i_g rfl (fun h => ?_) (fun h => ?_) | refine c_cond rfl (fun h => ?_) (fun h => ?_))
    refine e_ret ⟨rfl, _, rfl, congrArg (V.int .i64) (fidx_none fun j hj => hi j (by omega))⟩
def c_slices_ContainsFunc_Assign : Cmd :=
  (.seq
   (.ops [
   .op (some 4) none (.mov (.c (.bool false)))])
   (.cut
   (.seq
   (.ops [
   .op (some 5) none (.mov (.t 0)),
   .op (some 6) none (.mov (.t 1)),
   .op (some 7) none (.call .f (.c (.fn 60 [])) [.t 5, .t 6]),
   .op (some 8) none (.bin .geq false [] (.t 7) (.c (.int .i64 (0)))),
   .op (some 4) none (.mov (.t 8))])
   .ret)))
def r_slices_ContainsFunc_Assign : List RVar := [.tmp 4]
def n_slices_ContainsFunc_Assign : Nat := 9
theorem k_slices_ContainsFunc_Assign : chkFn Go.Proofs.Try.prog 53 n_slices_ContainsFunc_Assign r_slices_ContainsFunc_Assign c_slices_ContainsFunc_Assign = true := by kernel_rfl
theorem f_ContainsFunc_Assign (l : List Asg) (p : Asg → Bool) (fid : Nat) (caps : List V) (hl : l.length ≤ 140737488355328) (he : ∀ σ n, caps.map (er σ (n + 1)) = caps) (hc : closedL [] caps = true) (hp : ∀ t ∈ l, Fc Go.Proofs.Try.prog fid (asV t :: caps) (.bool (p t))) :
    Fc Go.Proofs.Try.prog 53 [.sl .p (l.map asV), .fn fid caps] (.bool (l.any p)) := by
  refine Fn.step mixed k_slices_ContainsFunc_Assign ?_
  repeat (first | refine i_len rfl ?_ | refine i_s rfl ?_ | refine i_lenm rfl rfl rfl ?_ | refine c_seq ?_ | refine c_cut0 ?_ | refine c_ops ?_ | refine i_nil ?_ | refine e_seq ?_ | refine e_block ?_ | refine c_block ?_ | refine c_skip ?_ | refine c_ret ?_ | refine c_exit ?_ | refine e_exit rfl ?_ | refine i_s0 rfl ?_ | refine c_leaf ?_ | refine i_gt rfl ?_ | refine i_gf rfl ?_ | refine i_gd rfl ?_ | refine c_t rfl ?_ | refine c_f rfl ?_ | refine i_conv rfl (by simp only [InR, List.length_map]; omega) ?_ | refine i_add rfl rfl (by simp only [InR, List.length_map]; omega) ?_ | refine i_sub rfl rfl (by simp only [InR, List.length_map]; omega) ?_ | refine i_ixm rfl rfl (by assumption) ?_ | refine i_iai rfl rfl (by omega) (by assumption) rfl ?_ | refine i_iam rfl rfl (by assumption) rfl ?_ | refine i_tk rfl rfl (by omega) ?_ | refine i_stb rfl ?_ | refine i_alloc rfl ?_ | refine i_box rfl rfl ?_ | refine i_nv rfl ?_)
  refine i_f rfl (congrArg (fun x => [V.sl .p (l.map asV), .fn fid x]) (he _ 4)) (f_IndexFunc_Assign l p fid caps hl he hc hp) rfl ?_
  repeat' (first | refine i_len rfl ?_ | refine i_s rfl ?_ | refine i_lenm rfl rfl rfl ?_ | refine c_seq ?_ | refine c_cut0 ?_ | refine c_ops ?_ | refine i_nil ?_ | refine e_seq ?_ | refine e_block ?_ | refine c_block ?_ | refine c_skip ?_ | refine c_ret ?_ | refine c_exit ?_ | refine e_exit rfl ?_ | refine i_s0 rfl ?_ | refine c_leaf ?_ | refine i_gt rfl ?_ | refine i_gf rfl ?_ | refine i_gd rfl ?_ | refine c_t rfl ?_ | refine c_f rfl ?_ | refine i_conv rfl (by simp only [InR, List.length_map]; omega) ?_ | refine i_add rfl rfl (by simp only [InR, List.length_map]; omega) ?_ | refine i_sub rfl rfl (by simp only [InR, List.length_map]; omega) ?_ | refine i_ixm rfl rfl (by assumption) ?_ | refine i_iai rfl rfl (by omega) (by assumption) rfl ?_ | refine i_iam rfl rfl (by assumption) rfl ?_ | refine i_tk rfl rfl (by omega) ?_ | refine i_stb rfl ?_ | refine i_alloc rfl ?_ | refine i_box rfl rfl ?_ | refine i_nv rfl ?_ | refine c_node ?_ ?_ | refine i_g rfl (fun h => ?_) (fun h => ?_) | refine c_cond rfl (fun h => ?_) (fun h => ?_))
  refine e_ret ⟨rfl, _, rfl, congrArg V.bool (fidx_any p l).symm⟩


theorem szAt_ok {sizes : List Int} {v : Int} (h0 : 0 ≤ v) (h1 : v < sizes.length) : ∃ z, sizes[v.toNat]? = some z ∧ szAt sizes v = some z := by
  obtain ⟨z, hz⟩ := get_some (l := sizes) (k := v.toNat) (by omega)
  exact ⟨z, hz, by simp [szAt, hz]; omega⟩
theorem szAt_no {sizes : List Int} {v : Int} (h : ¬ (0 ≤ v ∧ v < sizes.length)) : szAt sizes v = none := by
  unfold szAt
  split
  · rfl
  · rw [List.getElem?_eq_none (by omega)]
/-- The assignment before, at hand. -/
theorem prev_get {l : List Asg} {k : Nat} {a : Asg} (hk : l[k]? = some a) (v : Int) : (k = 0) ∨ ∃ b, 0 < k ∧ l[((k : Int) - 1).toNat]? = some b ∧ asPrev l k v = decide (b.var < v) := by
  by_cases h : k = 0
  · exact .inl h
  · obtain ⟨b, hb⟩ := get_some (l := l) (k := k - 1) (by have := get_lt hk; omega)
    exact .inr ⟨b, by omega, by rw [show ((k : Int) - 1).toNat = k - 1 from by omega]; exact hb, by simp [asPrev, hb]⟩
end Hm
end

section
/- Contracts: assignments. -/
namespace Hm
open Go
set_option maxRecDepth 100000
set_option maxHeartbeats 1000000
set_option linter.unusedSimpArgs false
set_option linter.unusedVariables false
def c_R1_Assigns : Cmd :=
  (.seq
   (.ops [
   .op (some 2) none (.box 1984132 4 (.t 0)),
   .op (some 4) none (.mov (.c (.bool false)))])
   (.cut
   (.seq
   (.seq
   (.ops [
   .op (some 5) none (.mov (.c (.int .i64 (0))))])
   (.cut
   (.block 0
   (.loop
   (.seq
   (.seq
   (.ops [
   .op (some 6) none (.mov (.t 5)),
   .op (some 7) none (.mov (.t 1)),
   .op (some 8) none (.len false (.t 7)),
   .op (some 9) none (.bin .lss false [] (.t 6) (.t 8))])
   (.cut
   (.cond (.t 9)
   .skip
   (.exit 0))))
   (.cut
   (.seq
   (.block 1
   (.seq
   (.ops [
   .op (some 12) none (.mov (.t 1)),
   .op (some 13) none (.mov (.t 5)),
   .op (some 14) none (.iaddr 2 (.t 12) (.t 13)),
   .op (some 15) none (.faddr 0 (.t 14)),
   .op (some 16) none (.load false 1 (.t 15)),
   .op (some 17) none (.faddr 0 (.t 2)),
   .op (some 18) none (.load false 1 (.t 17)),
   .op (some 19) none (.len false (.t 18)),
   .op (some 20) none (.bin .sub false [] (.t 19) (.c (.int .i64 (1)))),
   .op (some 21) none (.call .f (.c (.fn 16 [])) [.t 16, .c (.int .i64 (0)), .t 20]),
   .op (some 22) none (.not (.t 21)),
   .op (some 23) none (.mov (.t 22)),
   .op (some 24) (some (23, false)) (.mov (.t 1)),
   .op (some 25) (some (23, false)) (.mov (.t 5)),
   .op (some 26) (some (23, false)) (.iaddr 2 (.t 24) (.t 25)),
   .op (some 27) (some (23, false)) (.faddr 1 (.t 26)),
   .op (some 28) (some (23, false)) (.load false 1 (.t 27)),
   .op (some 29) (some (23, false)) (.faddr 0 (.t 2)),
   .op (some 30) (some (23, false)) (.load false 1 (.t 29)),
   .op (some 31) (some (23, false)) (.mov (.t 1)),
   .op (some 32) (some (23, false)) (.mov (.t 5)),
   .op (some 33) (some (23, false)) (.iaddr 2 (.t 31) (.t 32)),
   .op (some 34) (some (23, false)) (.faddr 0 (.t 33)),
   .op (some 35) (some (23, false)) (.load false 1 (.t 34)),
   .op (some 36) (some (23, false)) (.iaddr 1 (.t 30) (.t 35)),
   .op (some 37) (some (23, false)) (.load false 1 (.t 36)),
   .op (some 38) (some (23, false)) (.bin .sub false [] (.t 37) (.c (.int .i64 (1)))),
   .op (some 39) (some (23, false)) (.call .f (.c (.fn 16 [])) [.t 28, .c (.int .i64 (0)), .t 38]),
   .op (some 40) (some (23, false)) (.not (.t 39)),
   .op (some 41) none (.pick (.t 23) (.c (.bool true)) (.t 40)),
   .op (some 42) none (.mov (.t 41)),
   .op (some 43) (some (42, false)) (.mov (.t 5)),
   .op (some 44) (some (42, false)) (.bin .gtr false [] (.t 43) (.c (.int .i64 (0)))),
   .op (some 45) (some (42, false)) (.mov (.t 44)),
   .op (some 46) (some (45, true)) (.mov (.t 1)),
   .op (some 47) (some (45, true)) (.mov (.t 5)),
   .op (some 48) (some (45, true)) (.iaddr 2 (.t 46) (.t 47)),
   .op (some 49) (some (45, true)) (.faddr 0 (.t 48)),
   .op (some 50) (some (45, true)) (.load false 1 (.t 49)),
   .op (some 51) (some (45, true)) (.mov (.t 1)),
   .op (some 52) (some (45, true)) (.mov (.t 5)),
   .op (some 53) (some (45, true)) (.bin .sub false [] (.t 52) (.c (.int .i64 (1)))),
   .op (some 54) (some (45, true)) (.iaddr 2 (.t 51) (.t 53)),
   .op (some 55) (some (45, true)) (.faddr 0 (.t 54)),
   .op (some 56) (some (45, true)) (.load false 1 (.t 55)),
   .op (some 57) (some (45, true)) (.bin .leq false [] (.t 50) (.t 56)),
   .op (some 58) (some (42, false)) (.pick (.t 45) (.t 57) (.c (.bool false))),
   .op (some 59) none (.pick (.t 42) (.c (.bool true)) (.t 58))])
   (.cut
   (.cond (.t 59)
   (.seq
   (.ops [
   .op (some 4) none (.mov (.c (.bool false)))])
   .ret)
   .skip))))
   (.cut
   (.ops [
   .op (some 10) none (.mov (.t 5)),
   .op (some 11) none (.bin .add false [] (.t 10) (.c (.int .i64 (1)))),
   .op (some 5) none (.mov (.t 11))])))))))))
   (.cut
   (.seq
   (.ops [
   .op (some 4) none (.mov (.c (.bool true)))])
   .ret)))))
def r_R1_Assigns : List RVar := [.tmp 4]
def n_R1_Assigns : Nat := 60
theorem k_R1_Assigns : chkFn Go.Proofs.Try.prog 31 n_R1_Assigns r_R1_Assigns c_R1_Assigns = true := by kernel_rfl
theorem f_R1_Assigns (m : MTask) (l : List Asg) (hl : l.length ≤ 140737488355328) (hsz : m.sizes.length ≤ 140737488355328) (hz : ∀ z ∈ m.sizes, 1 ≤ z ∧ z ≤ 6) : Fc Go.Proofs.Try.prog 31 [mtV m, .sl .p (l.map asV)] (.bool (asB m.sizes l)) := by
  refine Fn.step mixed k_R1_Assigns ?_
  repeat' (first | refine i_len rfl ?_ | refine i_s rfl ?_ | refine i_lenm rfl rfl rfl ?_ | refine c_seq ?_ | refine c_cut0 ?_ | refine c_ops ?_ | refine i_nil ?_ | refine e_seq ?_ | refine e_block ?_ | refine c_block ?_ | refine c_skip ?_ | refine c_ret ?_ | refine c_exit ?_ | refine e_exit rfl ?_ | refine i_s0 rfl ?_ | refine c_leaf ?_ | refine i_gt rfl ?_ | refine i_gf rfl ?_ | refine i_gd rfl ?_ | refine c_t rfl ?_ | refine c_f rfl ?_ | refine i_conv rfl (by simp only [InR, List.length_map]; omega) ?_ | refine i_add rfl rfl (by simp only [InR, List.length_map]; omega) ?_ | refine i_sub rfl rfl (by simp only [InR, List.length_map]; omega) ?_ | refine i_ixm rfl rfl (by assumption) ?_ | refine i_iai rfl rfl (by omega) (by assumption) rfl ?_ | refine i_iam rfl rfl (by assumption) rfl ?_ | refine i_tk rfl rfl (by omega) ?_ | refine i_stb rfl ?_ | refine i_alloc rfl ?_ | refine i_box rfl rfl ?_ | refine i_nv rfl ?_ | refine c_node ?_ ?_ | refine i_g rfl (fun h => ?_) (fun h => ?_) | refine c_cond rfl (fun h => ?_) (fun h => ?_))
  refine c_for l.length (fun k => [(1, .sl .p (l.map asV)), (2, .bptr 1984132 0), (5, .int .i64 k)]) (fun _ => [(1984132, .box (mtV m))]) (fun k => ∀ j, j < k → asAt m.sizes l j = true) all_zero ⟨by repeat (first | exact trivial | refine ⟨rfl, ?_⟩), by repeat (first | exact trivial | refine ⟨rfl, ?_⟩), rfl⟩ fun k hk hi => ?_
  repeat (first | refine i_len rfl ?_ | refine i_s rfl ?_ | refine i_lenm rfl rfl rfl ?_ | refine c_seq ?_ | refine c_cut0 ?_ | refine c_ops ?_ | refine i_nil ?_ | refine e_seq ?_ | refine e_block ?_ | refine c_block ?_ | refine c_skip ?_ | refine c_ret ?_ | refine c_exit ?_ | refine e_exit rfl ?_ | refine i_s0 rfl ?_ | refine c_leaf ?_ | refine i_gt rfl ?_ | refine i_gf rfl ?_ | refine i_gd rfl ?_ | refine c_t rfl ?_ | refine c_f rfl ?_ | refine i_conv rfl (by simp only [InR, List.length_map]; omega) ?_ | refine i_add rfl rfl (by simp only [InR, List.length_map]; omega) ?_ | refine i_sub rfl rfl (by simp only [InR, List.length_map]; omega) ?_ | refine i_ixm rfl rfl (by assumption) ?_ | refine i_iai rfl rfl (by omega) (by assumption) rfl ?_ | refine i_iam rfl rfl (by assumption) rfl ?_ | refine i_tk rfl rfl (by omega) ?_ | refine i_stb rfl ?_ | refine i_alloc rfl ?_ | refine i_box rfl rfl ?_ | refine i_nv rfl ?_)
  refine c_cond rfl (fun h => ?_) (fun h => ?_)
  · have hlt : k < l.length := by simpa using h
    obtain ⟨a, ha⟩ := get_some hlt
    clear h
    have bad : asAt m.sizes l k = false → V.bool (asB m.sizes l) = V.bool false := fun h => by rw [asB, allN_bad hlt h]
    have next : asAt m.sizes l k = true → ∀ j, j < k + 1 → asAt m.sizes l j = true := fun h => all_succ hi h
    clear hi
    by_cases hv : 0 ≤ a.var ∧ a.var < m.sizes.length
    · obtain ⟨z, hzz, hsa⟩ := szAt_ok hv.1 hv.2
      have hzb := hz z (mem_get hzz)
      obtain ⟨hv0, hv1⟩ := hv
      have hat : asAt m.sizes l k = (decide (0 ≤ a.value) && decide (a.value < z) && (decide (k = 0) || asPrev l k a.var)) := by simp [asAt, ha, hsa]
      rcases prev_get ha a.var with h0 | ⟨b, hk0, hb, hpv⟩
      · repeat' (first | refine i_len rfl ?_ | refine i_s rfl ?_ | refine i_lenm rfl rfl rfl ?_ | refine c_seq ?_ | refine c_cut0 ?_ | refine c_ops ?_ | refine i_nil ?_ | refine e_seq ?_ | refine e_block ?_ | refine c_block ?_ | refine c_skip ?_ | refine c_ret ?_ | refine c_exit ?_ | refine e_exit rfl ?_ | refine i_s0 rfl ?_ | refine c_leaf ?_ | refine i_gt rfl ?_ | refine i_gf rfl ?_ | refine i_gd rfl ?_ | refine c_t rfl ?_ | refine c_f rfl ?_ | refine i_conv rfl (by simp only [InR, List.length_map]; omega) ?_ | refine i_add rfl rfl (by simp only [InR, List.length_map]; omega) ?_ | refine i_sub rfl rfl (by simp only [InR, List.length_map]; omega) ?_ | refine i_ixm rfl rfl (by assumption) ?_ | refine i_iai rfl rfl (by omega) (by assumption) rfl ?_ | refine i_iam rfl rfl (by assumption) rfl ?_ | refine i_tk rfl rfl (by omega) ?_ | refine i_stb rfl ?_ | refine i_alloc rfl ?_ | refine i_box rfl rfl ?_ | refine i_nv rfl ?_ | refine c_node ?_ ?_ | refine i_g rfl (fun h => ?_) (fun h => ?_) | refine c_cond rfl (fun h => ?_) (fun h => ?_) | refine i_f rfl rfl (f_R1_In _ _ _) rfl ?_)
        all_goals first
          | refine e_for hlt (next ?_) ⟨by repeat (first | exact trivial | refine ⟨rfl, ?_⟩), by repeat (first | exact trivial | refine ⟨rfl, ?_⟩), rfl⟩
          | refine e_ret ⟨rfl, _, rfl, bad ?_⟩
          | exfalso
        all_goals clear next bad hz ha hzz hsa
        all_goals try rw [hat]
        all_goals clear hat
        all_goals grind
      · rw [hpv] at hat
        repeat' (first | refine i_len rfl ?_ | refine i_s rfl ?_ | refine i_lenm rfl rfl rfl ?_ | refine c_seq ?_ | refine c_cut0 ?_ | refine c_ops ?_ | refine i_nil ?_ | refine e_seq ?_ | refine e_block ?_ | refine c_block ?_ | refine c_skip ?_ | refine c_ret ?_ | refine c_exit ?_ | refine e_exit rfl ?_ | refine i_s0 rfl ?_ | refine c_leaf ?_ | refine i_gt rfl ?_ | refine i_gf rfl ?_ | refine i_gd rfl ?_ | refine c_t rfl ?_ | refine c_f rfl ?_ | refine i_conv rfl (by simp only [InR, List.length_map]; omega) ?_ | refine i_add rfl rfl (by simp only [InR, List.length_map]; omega) ?_ | refine i_sub rfl rfl (by simp only [InR, List.length_map]; omega) ?_ | refine i_ixm rfl rfl (by assumption) ?_ | refine i_iai rfl rfl (by omega) (by assumption) rfl ?_ | refine i_iam rfl rfl (by assumption) rfl ?_ | refine i_tk rfl rfl (by omega) ?_ | refine i_stb rfl ?_ | refine i_alloc rfl ?_ | refine i_box rfl rfl ?_ | refine i_nv rfl ?_ | refine c_node ?_ ?_ | refine i_g rfl (fun h => ?_) (fun h => ?_) | refine c_cond rfl (fun h => ?_) (fun h => ?_) | refine i_f rfl rfl (f_R1_In _ _ _) rfl ?_)
        all_goals first
          | refine e_for hlt (next ?_) ⟨by repeat (first | exact trivial | refine ⟨rfl, ?_⟩), by repeat (first | exact trivial | refine ⟨rfl, ?_⟩), rfl⟩
          | refine e_ret ⟨rfl, _, rfl, bad ?_⟩
          | exfalso
        all_goals clear next bad hz ha hzz hsa
        all_goals try rw [hat]
        all_goals clear hat
        all_goals grind
    · have hat : asAt m.sizes l k = false := by simp [asAt, ha, szAt_no hv]
      repeat' (first | refine i_len rfl ?_ | refine i_s rfl ?_ | refine i_lenm rfl rfl rfl ?_ | refine c_seq ?_ | refine c_cut0 ?_ | refine c_ops ?_ | refine i_nil ?_ | refine e_seq ?_ | refine e_block ?_ | refine c_block ?_ | refine c_skip ?_ | refine c_ret ?_ | refine c_exit ?_ | refine e_exit rfl ?_ | refine i_s0 rfl ?_ | refine c_leaf ?_ | refine i_gt rfl ?_ | refine i_gf rfl ?_ | refine i_gd rfl ?_ | refine c_t rfl ?_ | refine c_f rfl ?_ | refine i_conv rfl (by simp only [InR, List.length_map]; omega) ?_ | refine i_add rfl rfl (by simp only [InR, List.length_map]; omega) ?_ | refine i_sub rfl rfl (by simp only [InR, List.length_map]; omega) ?_ | refine i_ixm rfl rfl (by assumption) ?_ | refine i_iai rfl rfl (by omega) (by assumption) rfl ?_ | refine i_iam rfl rfl (by assumption) rfl ?_ | refine i_tk rfl rfl (by omega) ?_ | refine i_stb rfl ?_ | refine i_alloc rfl ?_ | refine i_box rfl rfl ?_ | refine i_nv rfl ?_ | refine c_node ?_ ?_ | refine i_g rfl (fun h => ?_) (fun h => ?_) | refine c_cond rfl (fun h => ?_) (fun h => ?_) | refine i_f rfl rfl (f_R1_In _ _ _) rfl ?_)
      all_goals first
        | exact e_ret ⟨rfl, _, rfl, bad hat⟩
        | (exfalso; clear next bad hz ha hat; grind)
  · have hge : ¬ k < l.length := by simpa using h
    repeat' (first | refine i_len rfl ?_ | refine i_s rfl ?_ | refine i_lenm rfl rfl rfl ?_ | refine c_seq ?_ | refine c_cut0 ?_ | refine c_ops ?_ | refine i_nil ?_ | refine e_seq ?_ | refine e_block ?_ | refine c_block ?_ | refine c_skip ?_ | refine c_ret ?_ | refine c_exit ?_ | refine e_exit rfl ?_ | refine i_s0 rfl ?_ | refine c_leaf ?_ | refine i_gt rfl ?_ | refine i_gf rfl ?_ | refine i_gd rfl ?_ | refine c_t rfl ?_ | refine c_f rfl ?_ | refine i_conv rfl (by simp only [InR, List.length_map]; omega) ?_ | refine i_add rfl rfl (by simp only [InR, List.length_map]; omega) ?_ | refine i_sub rfl rfl (by simp only [InR, List.length_map]; omega) ?_ | refine i_ixm rfl rfl (by assumption) ?_ | refine i_iai rfl rfl (by omega) (by assumption) rfl ?_ | refine i_iam rfl rfl (by assumption) rfl ?_ | refine i_tk rfl rfl (by omega) ?_ | refine i_stb rfl ?_ | refine i_alloc rfl ?_ | refine i_box rfl rfl ?_ | refine i_nv rfl ?_ | refine c_node ?_ ?_ | refine i_g rfl (fun h => ?_) (fun h => ?_) | refine c_cond rfl (fun h => ?_) (fun h => ?_))
    exact e_ret ⟨rfl, _, rfl, congrArg V.bool (allN_ok fun j hj => hi j (by omega))⟩
def c_multi_assigns : Cmd :=
  (.seq
   (.ops [
   .op (some 2) none (.box 2368132 4 (.t 0)),
   .op (some 4) none (.mov (.c (.bool false)))])
   (.cut
   (.seq
   (.seq
   (.ops [
   .op (some 7) none (.mov (.t 1)),
   .op (some 8) none (.len false (.t 7)),
   .op (some 9) none (.mov (.c (.int .i64 (0))))])
   (.cut
   (.block 0
   (.loop
   (.seq
   (.ops [
   .op (some 10) none (.bin .lss false [] (.t 9) (.t 8))])
   (.cut
   (.seq
   (.cond (.t 10)
   .skip
   (.exit 0))
   (.cut
   (.seq
   (.block 1
   (.seq
   (.ops [
   .op (some 11) none (.mov (.t 9)),
   .op (some 12) none (.iaddr 2 (.t 7) (.t 9)),
   .op (some 13) none (.load true 2 (.t 12)),
   .op (some 6) none (.alloc 2368386 (.agg [.int .i64 (0), .int .i64 (0)])),
   .op (some 5) none (.mov (.t 11)),
   .op none none (.store 2 (.t 6) (.t 13))])
   (.cut
   (.seq
   (.ops [
   .op (some 14) none (.faddr 0 (.t 6)),
   .op (some 15) none (.load false 1 (.t 14)),
   .op (some 16) none (.bin .lss false [] (.t 15) (.c (.int .i64 (0)))),
   .op (some 17) none (.mov (.t 16)),
   .op (some 18) (some (17, false)) (.faddr 0 (.t 6)),
   .op (some 19) (some (17, false)) (.load false 1 (.t 18)),
   .op (some 20) (some (17, false)) (.faddr 0 (.t 2)),
   .op (some 21) (some (17, false)) (.load false 1 (.t 20)),
   .op (some 22) (some (17, false)) (.len false (.t 21)),
   .op (some 23) (some (17, false)) (.bin .geq false [] (.t 19) (.t 22)),
   .op (some 24) none (.pick (.t 17) (.c (.bool true)) (.t 23)),
   .op (some 25) none (.mov (.t 24)),
   .op (some 26) (some (25, false)) (.faddr 1 (.t 6)),
   .op (some 27) (some (25, false)) (.load false 1 (.t 26)),
   .op (some 28) (some (25, false)) (.bin .lss false [] (.t 27) (.c (.int .i64 (0)))),
   .op (some 29) none (.pick (.t 25) (.c (.bool true)) (.t 28)),
   .op (some 30) none (.mov (.t 29)),
   .op (some 31) (some (30, false)) (.faddr 1 (.t 6)),
   .op (some 32) (some (30, false)) (.load false 1 (.t 31)),
   .op (some 33) (some (30, false)) (.faddr 0 (.t 2)),
   .op (some 34) (some (30, false)) (.load false 1 (.t 33)),
   .op (some 35) (some (30, false)) (.faddr 0 (.t 6)),
   .op (some 36) (some (30, false)) (.load false 1 (.t 35)),
   .op (some 37) (some (30, false)) (.iaddr 1 (.t 34) (.t 36)),
   .op (some 38) (some (30, false)) (.load false 1 (.t 37)),
   .op (some 39) (some (30, false)) (.bin .geq false [] (.t 32) (.t 38)),
   .op (some 40) none (.pick (.t 30) (.c (.bool true)) (.t 39)),
   .op (some 41) none (.mov (.t 40)),
   .op (some 42) (some (41, false)) (.mov (.t 5)),
   .op (some 43) (some (41, false)) (.bin .gtr false [] (.t 42) (.c (.int .i64 (0)))),
   .op (some 44) (some (41, false)) (.mov (.t 43)),
   .op (some 45) (some (44, true)) (.faddr 0 (.t 6)),
   .op (some 46) (some (44, true)) (.load false 1 (.t 45)),
   .op (some 47) (some (44, true)) (.mov (.t 1)),
   .op (some 48) (some (44, true)) (.mov (.t 5)),
   .op (some 49) (some (44, true)) (.bin .sub false [] (.t 48) (.c (.int .i64 (1)))),
   .op (some 50) (some (44, true)) (.iaddr 2 (.t 47) (.t 49)),
   .op (some 51) (some (44, true)) (.faddr 0 (.t 50)),
   .op (some 52) (some (44, true)) (.load false 1 (.t 51)),
   .op (some 53) (some (44, true)) (.bin .leq false [] (.t 46) (.t 52)),
   .op (some 54) (some (41, false)) (.pick (.t 44) (.t 53) (.c (.bool false))),
   .op (some 55) none (.pick (.t 41) (.c (.bool true)) (.t 54))])
   (.cut
   (.cond (.t 55)
   (.seq
   (.ops [
   .op (some 4) none (.mov (.c (.bool false)))])
   .ret)
   .skip))))))
   (.cut
   (.ops [
   .op (some 56) none (.bin .add false [] (.t 9) (.c (.int .i64 (1)))),
   .op (some 9) none (.mov (.t 56))])))))))))))
   (.cut
   (.seq
   (.ops [
   .op (some 4) none (.mov (.c (.bool true)))])
   .ret)))))
def r_multi_assigns : List RVar := [.tmp 4]
def n_multi_assigns : Nat := 57
theorem k_multi_assigns : chkFn Go.Proofs.Try.prog 37 n_multi_assigns r_multi_assigns c_multi_assigns = true := by kernel_rfl
theorem f_multi_assigns (m : MTask) (l : List Asg) (hl : l.length ≤ 140737488355328) (hsz : m.sizes.length ≤ 140737488355328) : Fc Go.Proofs.Try.prog 37 [mtV m, .sl .p (l.map asV)] (.bool (asB m.sizes l)) := by
  refine Fn.step mixed k_multi_assigns ?_
  repeat' (first | refine i_len rfl ?_ | refine i_s rfl ?_ | refine i_lenm rfl rfl rfl ?_ | refine c_seq ?_ | refine c_cut0 ?_ | refine c_ops ?_ | refine i_nil ?_ | refine e_seq ?_ | refine e_block ?_ | refine c_block ?_ | refine c_skip ?_ | refine c_ret ?_ | refine c_exit ?_ | refine e_exit rfl ?_ | refine i_s0 rfl ?_ | refine c_leaf ?_ | refine i_gt rfl ?_ | refine i_gf rfl ?_ | refine i_gd rfl ?_ | refine c_t rfl ?_ | refine c_f rfl ?_ | refine i_conv rfl (by simp only [InR, List.length_map]; omega) ?_ | refine i_add rfl rfl (by simp only [InR, List.length_map]; omega) ?_ | refine i_sub rfl rfl (by simp only [InR, List.length_map]; omega) ?_ | refine i_ixm rfl rfl (by assumption) ?_ | refine i_iai rfl rfl (by omega) (by assumption) rfl ?_ | refine i_iam rfl rfl (by assumption) rfl ?_ | refine i_tk rfl rfl (by omega) ?_ | refine i_stb rfl ?_ | refine i_alloc rfl ?_ | refine i_box rfl rfl ?_ | refine i_nv rfl ?_ | refine c_node ?_ ?_ | refine i_g rfl (fun h => ?_) (fun h => ?_) | refine c_cond rfl (fun h => ?_) (fun h => ?_))
  refine c_for l.length (fun k => [(1, .sl .p (l.map asV)), (2, .bptr 2368132 0), (7, .sl .p (l.map asV)), (8, .int .i64 l.length), (9, .int .i64 k)]) (fun _ => [(2368132, .box (mtV m))]) (fun k => ∀ j, j < k → asAt m.sizes l j = true) all_zero ⟨by repeat (first | exact trivial | refine ⟨rfl, ?_⟩), by repeat (first | exact trivial | refine ⟨rfl, ?_⟩), rfl⟩ fun k hk hi => ?_
  repeat (first | refine i_len rfl ?_ | refine i_s rfl ?_ | refine i_lenm rfl rfl rfl ?_ | refine c_seq ?_ | refine c_cut0 ?_ | refine c_ops ?_ | refine i_nil ?_ | refine e_seq ?_ | refine e_block ?_ | refine c_block ?_ | refine c_skip ?_ | refine c_ret ?_ | refine c_exit ?_ | refine e_exit rfl ?_ | refine i_s0 rfl ?_ | refine c_leaf ?_ | refine i_gt rfl ?_ | refine i_gf rfl ?_ | refine i_gd rfl ?_ | refine c_t rfl ?_ | refine c_f rfl ?_ | refine i_conv rfl (by simp only [InR, List.length_map]; omega) ?_ | refine i_add rfl rfl (by simp only [InR, List.length_map]; omega) ?_ | refine i_sub rfl rfl (by simp only [InR, List.length_map]; omega) ?_ | refine i_ixm rfl rfl (by assumption) ?_ | refine i_iai rfl rfl (by omega) (by assumption) rfl ?_ | refine i_iam rfl rfl (by assumption) rfl ?_ | refine i_tk rfl rfl (by omega) ?_ | refine i_stb rfl ?_ | refine i_alloc rfl ?_ | refine i_box rfl rfl ?_ | refine i_nv rfl ?_)
  refine c_cond rfl (fun h => ?_) (fun h => ?_)
  · have hlt : k < l.length := by simpa using h
    obtain ⟨a, ha⟩ := get_some hlt
    clear h
    have bad : asAt m.sizes l k = false → V.bool (asB m.sizes l) = V.bool false := fun h => by rw [asB, allN_bad hlt h]
    have next : asAt m.sizes l k = true → ∀ j, j < k + 1 → asAt m.sizes l j = true := fun h => all_succ hi h
    clear hi
    by_cases hv : 0 ≤ a.var ∧ a.var < m.sizes.length
    · obtain ⟨z, hzz, hsa⟩ := szAt_ok hv.1 hv.2
      obtain ⟨hv0, hv1⟩ := hv
      have hat : asAt m.sizes l k = (decide (0 ≤ a.value) && decide (a.value < z) && (decide (k = 0) || asPrev l k a.var)) := by simp [asAt, ha, hsa]
      rcases prev_get ha a.var with h0 | ⟨b, hk0, hb, hpv⟩
      · repeat' (first | refine i_len rfl ?_ | refine i_s rfl ?_ | refine i_lenm rfl rfl rfl ?_ | refine c_seq ?_ | refine c_cut0 ?_ | refine c_ops ?_ | refine i_nil ?_ | refine e_seq ?_ | refine e_block ?_ | refine c_block ?_ | refine c_skip ?_ | refine c_ret ?_ | refine c_exit ?_ | refine e_exit rfl ?_ | refine i_s0 rfl ?_ | refine c_leaf ?_ | refine i_gt rfl ?_ | refine i_gf rfl ?_ | refine i_gd rfl ?_ | refine c_t rfl ?_ | refine c_f rfl ?_ | refine i_conv rfl (by simp only [InR, List.length_map]; omega) ?_ | refine i_add rfl rfl (by simp only [InR, List.length_map]; omega) ?_ | refine i_sub rfl rfl (by simp only [InR, List.length_map]; omega) ?_ | refine i_ixm rfl rfl (by assumption) ?_ | refine i_iai rfl rfl (by omega) (by assumption) rfl ?_ | refine i_iam rfl rfl (by assumption) rfl ?_ | refine i_tk rfl rfl (by omega) ?_ | refine i_stb rfl ?_ | refine i_alloc rfl ?_ | refine i_box rfl rfl ?_ | refine i_nv rfl ?_ | refine c_node ?_ ?_ | refine i_g rfl (fun h => ?_) (fun h => ?_) | refine c_cond rfl (fun h => ?_) (fun h => ?_))
        all_goals first
          | refine e_for hlt (next ?_) ⟨by repeat (first | exact trivial | refine ⟨rfl, ?_⟩), by repeat (first | exact trivial | refine ⟨rfl, ?_⟩), rfl⟩
          | refine e_ret ⟨rfl, _, rfl, bad ?_⟩
          | exfalso
        all_goals clear next bad ha hzz hsa
        all_goals try rw [hat]
        all_goals clear hat
        all_goals grind
      · rw [hpv] at hat
        repeat' (first | refine i_len rfl ?_ | refine i_s rfl ?_ | refine i_lenm rfl rfl rfl ?_ | refine c_seq ?_ | refine c_cut0 ?_ | refine c_ops ?_ | refine i_nil ?_ | refine e_seq ?_ | refine e_block ?_ | refine c_block ?_ | refine c_skip ?_ | refine c_ret ?_ | refine c_exit ?_ | refine e_exit rfl ?_ | refine i_s0 rfl ?_ | refine c_leaf ?_ | refine i_gt rfl ?_ | refine i_gf rfl ?_ | refine i_gd rfl ?_ | refine c_t rfl ?_ | refine c_f rfl ?_ | refine i_conv rfl (by simp only [InR, List.length_map]; omega) ?_ | refine i_add rfl rfl (by simp only [InR, List.length_map]; omega) ?_ | refine i_sub rfl rfl (by simp only [InR, List.length_map]; omega) ?_ | refine i_ixm rfl rfl (by assumption) ?_ | refine i_iai rfl rfl (by omega) (by assumption) rfl ?_ | refine i_iam rfl rfl (by assumption) rfl ?_ | refine i_tk rfl rfl (by omega) ?_ | refine i_stb rfl ?_ | refine i_alloc rfl ?_ | refine i_box rfl rfl ?_ | refine i_nv rfl ?_ | refine c_node ?_ ?_ | refine i_g rfl (fun h => ?_) (fun h => ?_) | refine c_cond rfl (fun h => ?_) (fun h => ?_))
        all_goals first
          | refine e_for hlt (next ?_) ⟨by repeat (first | exact trivial | refine ⟨rfl, ?_⟩), by repeat (first | exact trivial | refine ⟨rfl, ?_⟩), rfl⟩
          | refine e_ret ⟨rfl, _, rfl, bad ?_⟩
          | exfalso
        all_goals clear next bad ha hzz hsa
        all_goals try rw [hat]
        all_goals clear hat
        all_goals grind
    · have hat : asAt m.sizes l k = false := by simp [asAt, ha, szAt_no hv]
      repeat' (first | refine i_len rfl ?_ | refine i_s rfl ?_ | refine i_lenm rfl rfl rfl ?_ | refine c_seq ?_ | refine c_cut0 ?_ | refine c_ops ?_ | refine i_nil ?_ | refine e_seq ?_ | refine e_block ?_ | refine c_block ?_ | refine c_skip ?_ | refine c_ret ?_ | refine c_exit ?_ | refine e_exit rfl ?_ | refine i_s0 rfl ?_ | refine c_leaf ?_ | refine i_gt rfl ?_ | refine i_gf rfl ?_ | refine i_gd rfl ?_ | refine c_t rfl ?_ | refine c_f rfl ?_ | refine i_conv rfl (by simp only [InR, List.length_map]; omega) ?_ | refine i_add rfl rfl (by simp only [InR, List.length_map]; omega) ?_ | refine i_sub rfl rfl (by simp only [InR, List.length_map]; omega) ?_ | refine i_ixm rfl rfl (by assumption) ?_ | refine i_iai rfl rfl (by omega) (by assumption) rfl ?_ | refine i_iam rfl rfl (by assumption) rfl ?_ | refine i_tk rfl rfl (by omega) ?_ | refine i_stb rfl ?_ | refine i_alloc rfl ?_ | refine i_box rfl rfl ?_ | refine i_nv rfl ?_ | refine c_node ?_ ?_ | refine i_g rfl (fun h => ?_) (fun h => ?_) | refine c_cond rfl (fun h => ?_) (fun h => ?_))
      all_goals first
        | exact e_ret ⟨rfl, _, rfl, bad hat⟩
        | (exfalso; clear next bad ha hat; grind)
  · have hge : ¬ k < l.length := by simpa using h
    repeat' (first | refine i_len rfl ?_ | refine i_s rfl ?_ | refine i_lenm rfl rfl rfl ?_ | refine c_seq ?_ | refine c_cut0 ?_ | refine c_ops ?_ | refine i_nil ?_ | refine e_seq ?_ | refine e_block ?_ | refine c_block ?_ | refine c_skip ?_ | refine c_ret ?_ | refine c_exit ?_ | refine e_exit rfl ?_ | refine i_s0 rfl ?_ | refine c_leaf ?_ | refine i_gt rfl ?_ | refine i_gf rfl ?_ | refine i_gd rfl ?_ | refine c_t rfl ?_ | refine c_f rfl ?_ | refine i_conv rfl (by simp only [InR, List.length_map]; omega) ?_ | refine i_add rfl rfl (by simp only [InR, List.length_map]; omega) ?_ | refine i_sub rfl rfl (by simp only [InR, List.length_map]; omega) ?_ | refine i_ixm rfl rfl (by assumption) ?_ | refine i_iai rfl rfl (by omega) (by assumption) rfl ?_ | refine i_iam rfl rfl (by assumption) rfl ?_ | refine i_tk rfl rfl (by omega) ?_ | refine i_stb rfl ?_ | refine i_alloc rfl ?_ | refine i_box rfl rfl ?_ | refine i_nv rfl ?_ | refine c_node ?_ ?_ | refine i_g rfl (fun h => ?_) (fun h => ?_) | refine c_cond rfl (fun h => ?_) (fun h => ?_))
    exact e_ret ⟨rfl, _, rfl, congrArg V.bool (allN_ok fun j hj => hi j (by omega))⟩
end Hm
end

section
/- Contracts: faults of multi-valued tasks. -/
namespace Hm
open Go
set_option maxRecDepth 100000
set_option maxHeartbeats 1000000
set_option linter.unusedSimpArgs false
set_option linter.unusedVariables false
theorem mFault_sz {m : MTask} (h : m.sizes.length = 0 ∨ m.sizes.length > 8) : mFault m = ⟨2, -1⟩ := by unfold mFault; rw [if_pos h]
/-- The first three tests passed. -/
structure MF1 (m : MTask) : Prop where
  len : ¬ (m.sizes.length = 0 ∨ m.sizes.length > 8)
  sz : m.sizes.any szBad = false
theorem MF1.rng {m : MTask} (h : MF1 m) : ∀ z ∈ m.sizes, 1 ≤ z ∧ z ≤ 6 := by
  intro z hz
  have := (List.any_eq_false.1 h.sz) z hz
  simp [szBad] at this
  omega
theorem mFault_rg {m : MTask} (h : ¬ (m.sizes.length = 0 ∨ m.sizes.length > 8)) (h2 : m.sizes.any szBad = true) : mFault m = ⟨3, -1⟩ := by unfold mFault; rw [if_neg h, if_pos h2]
theorem mFault_in {m : MTask} (h : MF1 m) (h2 : stB m.sizes m.init = false) : mFault m = ⟨5, -2⟩ := by unfold mFault; rw [if_neg h.len, h.sz, if_neg (by simp), if_pos h2]
theorem mFault_go {m : MTask} (h : MF1 m) (h2 : stB m.sizes m.init = true) (h3 : asB m.sizes m.goal = false) : mFault m = ⟨5, -3⟩ := by unfold mFault; rw [if_neg h.len, h.sz, if_neg (by simp), h2, if_neg (by simp), if_pos h3]
theorem mFault_op {m : MTask} (h : MF1 m) (h2 : stB m.sizes m.init = true) (h3 : asB m.sizes m.goal = true) (h4 : m.ops.length > 40) : mFault m = ⟨2, -1⟩ := by unfold mFault; rw [if_neg h.len, h.sz, if_neg (by simp), h2, if_neg (by simp), h3, if_neg (by simp), if_pos h4]
theorem mFault_el {m : MTask} (h : MF1 m) (h2 : stB m.sizes m.init = true) (h3 : asB m.sizes m.goal = true) (h4 : ¬ m.ops.length > 40) : mFault m = (scan (opBad m.sizes m.ops) 0 m.ops.length).getD okF := by
  unfold mFault; rw [if_neg h.len, h.sz, if_neg (by simp), h2, if_neg (by simp), h3, if_neg (by simp), if_neg h4]
theorem mFault_hit {m : MTask} (hel : mFault m = (scan (opBad m.sizes m.ops) 0 m.ops.length).getD okF) {k : Nat} {f : Flt} (hi : ∀ j, j < k → opBad m.sizes m.ops j = none) (hk : k < m.ops.length) (hf : opBad m.sizes m.ops k = some f) : mFault m = f := by
  rw [hel, scan0_hit hi hk hf]; rfl
def c_multi_Validate_1 : Cmd :=
  (.seq
   (.ops [
   .op (some 2) none (.mov (.c (.bool false)))])
   (.cut
   (.seq
   (.ops [
   .op (some 3) none (.mov (.t 0)),
   .op (some 4) none (.bin .lss false [] (.t 3) (.c (.int .i64 (1)))),
   .op (some 5) none (.mov (.t 4)),
   .op (some 6) (some (5, false)) (.mov (.t 0)),
   .op (some 7) (some (5, false)) (.bin .gtr false [] (.t 6) (.c (.int .i64 (6)))),
   .op (some 8) none (.pick (.t 5) (.c (.bool true)) (.t 7)),
   .op (some 2) none (.mov (.t 8))])
   .ret)))
def r_multi_Validate_1 : List RVar := [.tmp 2]
def n_multi_Validate_1 : Nat := 9
theorem k_multi_Validate_1 : chkFn Go.Proofs.Try.prog 34 n_multi_Validate_1 r_multi_Validate_1 c_multi_Validate_1 = true := by kernel_rfl
theorem f_multi_Validate_1 (n : Int) : Fc Go.Proofs.Try.prog 34 [.int .i64 n] (.bool (szBad n)) := by
  refine Fn.step mixed k_multi_Validate_1 ?_
  repeat' (first | refine i_len rfl ?_ | refine i_s rfl ?_ | refine i_lenm rfl rfl rfl ?_ | refine c_seq ?_ | refine c_cut0 ?_ | refine c_ops ?_ | refine i_nil ?_ | refine e_seq ?_ | refine e_block ?_ | refine c_block ?_ | refine c_skip ?_ | refine c_ret ?_ | refine c_exit ?_ | refine e_exit rfl ?_ | refine i_s0 rfl ?_ | refine c_leaf ?_ | refine i_gt rfl ?_ | refine i_gf rfl ?_ | refine i_gd rfl ?_ | refine c_t rfl ?_ | refine c_f rfl ?_ | refine i_conv rfl (by simp only [InR, List.length_map]; omega) ?_ | refine i_add rfl rfl (by simp only [InR, List.length_map]; omega) ?_ | refine i_sub rfl rfl (by simp only [InR, List.length_map]; omega) ?_ | refine i_ixm rfl rfl (by assumption) ?_ | refine i_iai rfl rfl (by omega) (by assumption) rfl ?_ | refine i_iam rfl rfl (by assumption) rfl ?_ | refine i_tk rfl rfl (by omega) ?_ | refine i_stb rfl ?_ | refine i_alloc rfl ?_ | refine i_box rfl rfl ?_ | refine i_nv rfl ?_ | refine c_node ?_ ?_ | refine i_g rfl (fun h => ?_) (fun h => ?_) | refine c_cond rfl (fun h => ?_) (fun h => ?_))
  all_goals refine e_ret ⟨rfl, _, rfl, congrArg V.bool ?_⟩
  all_goals unfold szBad
  all_goals grind
def c_multi_Validate : Cmd :=
  (.seq
   (.ops [
   .op (some 1) none (.box 640068 4 (.t 0)),
   .op (some 2) none (.alloc 640130 (.agg [.int .i64 (0), .int .i64 (0)]))])
   (.cut
   (.seq
   (.ops [
   .op (some 3) none (.mov (.c (.fn 34 [])))])
   (.cut
   (.seq
   (.block 0
   (.seq
   (.ops [
   .op (some 7) none (.faddr 0 (.t 1)),
   .op (some 8) none (.load false 1 (.t 7)),
   .op (some 9) none (.len false (.t 8)),
   .op (some 10) none (.bin .eql false [.i] (.t 9) (.c (.int .i64 (0)))),
   .op (some 11) none (.mov (.t 10)),
   .op (some 12) (some (11, false)) (.faddr 0 (.t 1)),
   .op (some 13) (some (11, false)) (.load false 1 (.t 12)),
   .op (some 14) (some (11, false)) (.len false (.t 13)),
   .op (some 15) (some (11, false)) (.bin .gtr false [] (.t 14) (.c (.int .i64 (8)))),
   .op (some 16) none (.pick (.t 11) (.c (.bool true)) (.t 15)),
   .op (some 6) none (.mov (.t 16))])
   (.cut
   (.cond (.t 6)
   (.seq
   (.ops [
   .op (some 17) none (.build [.int .i64 (0), .int .i64 (0)] [(0, 1, .c (.int .i64 (2))), (1, 1, .c (.int .i64 (-1)))]),
   .op none none (.store 2 (.t 2) (.t 17))])
   .ret)
   (.seq
   (.ops [
   .op (some 19) none (.faddr 0 (.t 1)),
   .op (some 20) none (.load false 1 (.t 19)),
   .op (some 21) none (.mov (.t 3)),
   .op (some 22) none (.call .f (.c (.fn 35 [])) [.t 20, .t 21]),
   .op (some 18) none (.mov (.t 22))])
   (.cut
   (.cond (.t 18)
   (.seq
   (.ops [
   .op (some 23) none (.build [.int .i64 (0), .int .i64 (0)] [(0, 1, .c (.int .i64 (3))), (1, 1, .c (.int .i64 (-1)))]),
   .op none none (.store 2 (.t 2) (.t 23))])
   .ret)
   (.seq
   (.ops [
   .op (some 25) none (.load true 4 (.t 1)),
   .op (some 26) none (.faddr 1 (.t 1)),
   .op (some 27) none (.load false 1 (.t 26)),
   .op (some 28) none (.call .f (.c (.fn 36 [])) [.t 25, .t 27]),
   .op (some 29) none (.not (.t 28)),
   .op (some 24) none (.mov (.t 29))])
   (.cut
   (.cond (.t 24)
   (.seq
   (.ops [
   .op (some 30) none (.build [.int .i64 (0), .int .i64 (0)] [(0, 1, .c (.int .i64 (5))), (1, 1, .c (.int .i64 (-2)))]),
   .op none none (.store 2 (.t 2) (.t 30))])
   .ret)
   (.seq
   (.ops [
   .op (some 32) none (.load true 4 (.t 1)),
   .op (some 33) none (.faddr 2 (.t 1)),
   .op (some 34) none (.load false 1 (.t 33)),
   .op (some 35) none (.call .f (.c (.fn 37 [])) [.t 32, .t 34]),
   .op (some 36) none (.not (.t 35)),
   .op (some 31) none (.mov (.t 36))])
   (.cut
   (.cond (.t 31)
   (.seq
   (.ops [
   .op (some 37) none (.build [.int .i64 (0), .int .i64 (0)] [(0, 1, .c (.int .i64 (5))), (1, 1, .c (.int .i64 (-3)))]),
   .op none none (.store 2 (.t 2) (.t 37))])
   .ret)
   (.seq
   (.ops [
   .op (some 39) none (.faddr 3 (.t 1)),
   .op (some 40) none (.load false 1 (.t 39)),
   .op (some 41) none (.len false (.t 40)),
   .op (some 42) none (.bin .gtr false [] (.t 41) (.c (.int .i64 (40)))),
   .op (some 38) none (.mov (.t 42))])
   (.cut
   (.cond (.t 38)
   (.seq
   (.ops [
   .op (some 43) none (.build [.int .i64 (0), .int .i64 (0)] [(0, 1, .c (.int .i64 (2))), (1, 1, .c (.int .i64 (-1)))]),
   .op none none (.store 2 (.t 2) (.t 43))])
   .ret)
   .skip))))))))))))))))
   (.cut
   (.seq
   (.seq
   (.ops [
   .op (some 44) none (.faddr 3 (.t 1)),
   .op (some 45) none (.load false 1 (.t 44)),
   .op (some 46) none (.len false (.t 45)),
   .op (some 47) none (.mov (.c (.int .i64 (0))))])
   (.cut
   (.block 1
   (.loop
   (.seq
   (.ops [
   .op (some 48) none (.bin .lss false [] (.t 47) (.t 46))])
   (.cut
   (.seq
   (.cond (.t 48)
   .skip
   (.exit 1))
   (.cut
   (.seq
   (.block 2
   (.seq
   (.ops [
   .op (some 49) none (.mov (.t 47)),
   .op (some 50) none (.iaddr 3 (.t 45) (.t 47)),
   .op (some 51) none (.load true 3 (.t 50)),
   .op (some 5) none (.alloc 640323 (.agg [.sl .nil [], .sl .nil [], .int .i64 (0)])),
   .op (some 4) none (.mov (.t 49)),
   .op none none (.store 3 (.t 5) (.t 51))])
   (.cut
   (.block 3
   (.seq
   (.ops [
   .op (some 53) none (.load true 4 (.t 1)),
   .op (some 54) none (.faddr 0 (.t 5)),
   .op (some 55) none (.load false 1 (.t 54)),
   .op (some 56) none (.call .f (.c (.fn 37 [])) [.t 53, .t 55]),
   .op (some 57) none (.not (.t 56)),
   .op (some 58) none (.mov (.t 57)),
   .op (some 59) (some (58, false)) (.load true 4 (.t 1)),
   .op (some 60) (some (58, false)) (.faddr 1 (.t 5)),
   .op (some 61) (some (58, false)) (.load false 1 (.t 60)),
   .op (some 62) (some (58, false)) (.call .f (.c (.fn 37 [])) [.t 59, .t 61]),
   .op (some 63) (some (58, false)) (.not (.t 62)),
   .op (some 64) none (.pick (.t 58) (.c (.bool true)) (.t 63)),
   .op (some 52) none (.mov (.t 64))])
   (.cut
   (.cond (.t 52)
   (.seq
   (.ops [
   .op (some 65) none (.mov (.t 4)),
   .op (some 66) none (.build [.int .i64 (0), .int .i64 (0)] [(0, 1, .c (.int .i64 (5))), (1, 1, .t 65)]),
   .op none none (.store 2 (.t 2) (.t 66))])
   .ret)
   (.seq
   (.ops [
   .op (some 68) none (.faddr 2 (.t 5)),
   .op (some 69) none (.load false 1 (.t 68)),
   .op (some 70) none (.bin .lss false [] (.t 69) (.c (.int .i64 (0)))),
   .op (some 71) none (.mov (.t 70)),
   .op (some 72) (some (71, false)) (.faddr 2 (.t 5)),
   .op (some 73) (some (71, false)) (.load false 1 (.t 72)),
   .op (some 74) (some (71, false)) (.bin .gtr false [] (.t 73) (.c (.int .i64 (100)))),
   .op (some 75) none (.pick (.t 71) (.c (.bool true)) (.t 74)),
   .op (some 67) none (.mov (.t 75))])
   (.cut
   (.cond (.t 67)
   (.seq
   (.ops [
   .op (some 76) none (.mov (.t 4)),
   .op (some 77) none (.build [.int .i64 (0), .int .i64 (0)] [(0, 1, .c (.int .i64 (3))), (1, 1, .t 76)]),
   .op none none (.store 2 (.t 2) (.t 77))])
   .ret)
   .skip))))))))))
   (.cut
   (.ops [
   .op (some 78) none (.bin .add false [] (.t 47) (.c (.int .i64 (1)))),
   .op (some 47) none (.mov (.t 78))])))))))))))
   (.cut
   (.seq
   (.ops [
   .op (some 79) none (.build [.int .i64 (0), .int .i64 (0)] []),
   .op none none (.store 2 (.t 2) (.t 79))])
   .ret)))))))))
def r_multi_Validate : List RVar := [.cell true 2 2]
def n_multi_Validate : Nat := 80
theorem k_multi_Validate : chkFn Go.Proofs.Try.prog 10 n_multi_Validate r_multi_Validate c_multi_Validate = true := by kernel_rfl
theorem f_multi_Validate (m : MTask) (ho : MOk m) : Fc Go.Proofs.Try.prog 10 [mtV m] (ftV (mFault m)) := by
  obtain ⟨l1, l2, l3, l4, l5⟩ := ho
  have hC := f_ContainsFunc_int m.sizes szBad 34 [] l1 (fun _ _ => rfl) rfl (fun n _ => f_multi_Validate_1 n)
  have hI := f_multi_IsState m m.init l2
  have hA := f_multi_assigns m m.goal l3 l1
  by_cases hlen : m.sizes.length = 0 ∨ m.sizes.length > 8
  · refine Fn.step mixed k_multi_Validate ?_
    repeat' (first | refine i_len rfl ?_ | refine i_s rfl ?_ | refine i_lenm rfl rfl rfl ?_ | refine c_seq ?_ | refine c_cut0 ?_ | refine c_ops ?_ | refine i_nil ?_ | refine e_seq ?_ | refine e_block ?_ | refine c_block ?_ | refine c_skip ?_ | refine c_ret ?_ | refine c_exit ?_ | refine e_exit rfl ?_ | refine i_s0 rfl ?_ | refine c_leaf ?_ | refine i_gt rfl ?_ | refine i_gf rfl ?_ | refine i_gd rfl ?_ | refine c_t rfl ?_ | refine c_f rfl ?_ | refine i_conv rfl (by simp only [InR, List.length_map]; omega) ?_ | refine i_add rfl rfl (by simp only [InR, List.length_map]; omega) ?_ | refine i_sub rfl rfl (by simp only [InR, List.length_map]; omega) ?_ | refine i_ixm rfl rfl (by assumption) ?_ | refine i_iai rfl rfl (by omega) (by assumption) rfl ?_ | refine i_iam rfl rfl (by assumption) rfl ?_ | refine i_tk rfl rfl (by omega) ?_ | refine i_stb rfl ?_ | refine i_alloc rfl ?_ | refine i_box rfl rfl ?_ | refine i_nv rfl ?_ | refine c_node ?_ ?_ | refine i_g rfl (fun h => ?_) (fun h => ?_) | refine c_cond rfl (fun h => ?_) (fun h => ?_) | refine i_f rfl rfl (hC) rfl ?_ | refine i_f rfl rfl (hI) rfl ?_ | refine i_f rfl rfl (hA) rfl ?_)
    all_goals first
      | exact e_ret ⟨rfl, _, rfl, congr_ft (mFault_sz hlen)⟩
      | (exfalso; clear hC hI hA l5; grind)
  by_cases hrg : m.sizes.any szBad = true
  · rw [hrg] at hC
    refine Fn.step mixed k_multi_Validate ?_
    repeat' (first | refine i_len rfl ?_ | refine i_s rfl ?_ | refine i_lenm rfl rfl rfl ?_ | refine c_seq ?_ | refine c_cut0 ?_ | refine c_ops ?_ | refine i_nil ?_ | refine e_seq ?_ | refine e_block ?_ | refine c_block ?_ | refine c_skip ?_ | refine c_ret ?_ | refine c_exit ?_ | refine e_exit rfl ?_ | refine i_s0 rfl ?_ | refine c_leaf ?_ | refine i_gt rfl ?_ | refine i_gf rfl ?_ | refine i_gd rfl ?_ | refine c_t rfl ?_ | refine c_f rfl ?_ | refine i_conv rfl (by simp only [InR, List.length_map]; omega) ?_ | refine i_add rfl rfl (by simp only [InR, List.length_map]; omega) ?_ | refine i_sub rfl rfl (by simp only [InR, List.length_map]; omega) ?_ | refine i_ixm rfl rfl (by assumption) ?_ | refine i_iai rfl rfl (by omega) (by assumption) rfl ?_ | refine i_iam rfl rfl (by assumption) rfl ?_ | refine i_tk rfl rfl (by omega) ?_ | refine i_stb rfl ?_ | refine i_alloc rfl ?_ | refine i_box rfl rfl ?_ | refine i_nv rfl ?_ | refine c_node ?_ ?_ | refine i_g rfl (fun h => ?_) (fun h => ?_) | refine c_cond rfl (fun h => ?_) (fun h => ?_) | refine i_f rfl rfl (hC) rfl ?_ | refine i_f rfl rfl (hI) rfl ?_ | refine i_f rfl rfl (hA) rfl ?_)
    all_goals first
      | exact e_ret ⟨rfl, _, rfl, congr_ft (mFault_rg hlen hrg)⟩
      | (exfalso; clear hC hI hA l5; grind)
  have hf : MF1 m := ⟨hlen, by simpa using hrg⟩
  rw [hf.sz] at hC
  have hop : ∀ o ∈ m.ops, Fc Go.Proofs.Try.prog 37 [mtV m, .sl .p (o.pre.map asV)] (.bool (asB m.sizes o.pre)) ∧ Fc Go.Proofs.Try.prog 37 [mtV m, .sl .p (o.post.map asV)] (.bool (asB m.sizes o.post)) :=
    fun o h => ⟨f_multi_assigns m o.pre (l5 o h).1 l1, f_multi_assigns m o.post (l5 o h).2 l1⟩
  refine Fn.step mixed k_multi_Validate ?_
  repeat' (first | refine i_len rfl ?_ | refine i_s rfl ?_ | refine i_lenm rfl rfl rfl ?_ | refine c_seq ?_ | refine c_cut0 ?_ | refine c_ops ?_ | refine i_nil ?_ | refine e_seq ?_ | refine e_block ?_ | refine c_block ?_ | refine c_skip ?_ | refine c_ret ?_ | refine c_exit ?_ | refine e_exit rfl ?_ | refine i_s0 rfl ?_ | refine c_leaf ?_ | refine i_gt rfl ?_ | refine i_gf rfl ?_ | refine i_gd rfl ?_ | refine c_t rfl ?_ | refine c_f rfl ?_ | refine i_conv rfl (by simp only [InR, List.length_map]; omega) ?_ | refine i_add rfl rfl (by simp only [InR, List.length_map]; omega) ?_ | refine i_sub rfl rfl (by simp only [InR, List.length_map]; omega) ?_ | refine i_ixm rfl rfl (by assumption) ?_ | refine i_iai rfl rfl (by omega) (by assumption) rfl ?_ | refine i_iam rfl rfl (by assumption) rfl ?_ | refine i_tk rfl rfl (by omega) ?_ | refine i_stb rfl ?_ | refine i_alloc rfl ?_ | refine i_box rfl rfl ?_ | refine i_nv rfl ?_ | refine c_node ?_ ?_ | refine i_g rfl (fun h => ?_) (fun h => ?_) | refine c_cond rfl (fun h => ?_) (fun h => ?_) | refine i_f rfl rfl (hC) rfl ?_ | refine i_f rfl rfl (hI) rfl ?_ | refine i_f rfl rfl (hA) rfl ?_)
  all_goals first
    | (exfalso; clear hC hI hA l5 hop; grind)
    | exact e_ret ⟨rfl, _, rfl, congr_ft (mFault_in hf (by clear hC hI hA l5 hop; grind))⟩
    | exact e_ret ⟨rfl, _, rfl, congr_ft (mFault_go hf (by clear hC hI hA l5 hop; grind) (by clear hC hI hA l5 hop; grind))⟩
    | exact e_ret ⟨rfl, _, rfl, congr_ft (mFault_op hf (by clear hC hI hA l5 hop; grind) (by clear hC hI hA l5 hop; grind) (by clear hC hI hA l5 hop; grind))⟩
    | skip
  have hel := mFault_el hf (by clear hC hI hA l5 hop; grind) (by clear hC hI hA l5 hop; grind) (by clear hC hI hA l5 hop; grind)
  clear hC hI hA
  clear hf hrg hlen l1 l2 l3 l5
  refine c_for m.ops.length (fun k => [(1, .bptr 640068 0), (2, .bptr 640130 0), (45, .sl .p (m.ops.map moV)), (46, .int .i64 m.ops.length), (47, .int .i64 k)]) (fun _ => [(640068, .box (mtV m)), (640130, .box (ftV okF))]) (fun k => ∀ j, j < k → opBad m.sizes m.ops j = none) all_zero ⟨by repeat (first | exact trivial | refine ⟨rfl, ?_⟩), by repeat (first | exact trivial | refine ⟨rfl, ?_⟩), rfl⟩ fun k hk hi => ?_
  repeat (first | refine i_len rfl ?_ | refine i_s rfl ?_ | refine i_lenm rfl rfl rfl ?_ | refine c_seq ?_ | refine c_cut0 ?_ | refine c_ops ?_ | refine i_nil ?_ | refine e_seq ?_ | refine e_block ?_ | refine c_block ?_ | refine c_skip ?_ | refine c_ret ?_ | refine c_exit ?_ | refine e_exit rfl ?_ | refine i_s0 rfl ?_ | refine c_leaf ?_ | refine i_gt rfl ?_ | refine i_gf rfl ?_ | refine i_gd rfl ?_ | refine c_t rfl ?_ | refine c_f rfl ?_ | refine i_conv rfl (by simp only [InR, List.length_map]; omega) ?_ | refine i_add rfl rfl (by simp only [InR, List.length_map]; omega) ?_ | refine i_sub rfl rfl (by simp only [InR, List.length_map]; omega) ?_ | refine i_ixm rfl rfl (by assumption) ?_ | refine i_iai rfl rfl (by omega) (by assumption) rfl ?_ | refine i_iam rfl rfl (by assumption) rfl ?_ | refine i_tk rfl rfl (by omega) ?_ | refine i_stb rfl ?_ | refine i_alloc rfl ?_ | refine i_box rfl rfl ?_ | refine i_nv rfl ?_)
  refine c_cond rfl (fun h => ?_) (fun h => ?_)
  · have hlt : k < m.ops.length := by simpa using h
    obtain ⟨o, ho⟩ := get_some hlt
    obtain ⟨p1, p2⟩ := hop o (mem_get ho)
    clear hop h
    have hbad : opBad m.sizes m.ops k = if asB m.sizes o.pre = false ∨ asB m.sizes o.post = false then some ⟨5, k⟩ else if o.cost < 0 ∨ o.cost > 100 then some ⟨3, k⟩ else none := by simp [opBad, ho]
    repeat' (first | refine i_len rfl ?_ | refine i_s rfl ?_ | refine i_lenm rfl rfl rfl ?_ | refine c_seq ?_ | refine c_cut0 ?_ | refine c_ops ?_ | refine i_nil ?_ | refine e_seq ?_ | refine e_block ?_ | refine c_block ?_ | refine c_skip ?_ | refine c_ret ?_ | refine c_exit ?_ | refine e_exit rfl ?_ | refine i_s0 rfl ?_ | refine c_leaf ?_ | refine i_gt rfl ?_ | refine i_gf rfl ?_ | refine i_gd rfl ?_ | refine c_t rfl ?_ | refine c_f rfl ?_ | refine i_conv rfl (by simp only [InR, List.length_map]; omega) ?_ | refine i_add rfl rfl (by simp only [InR, List.length_map]; omega) ?_ | refine i_sub rfl rfl (by simp only [InR, List.length_map]; omega) ?_ | refine i_ixm rfl rfl (by assumption) ?_ | refine i_iai rfl rfl (by omega) (by assumption) rfl ?_ | refine i_iam rfl rfl (by assumption) rfl ?_ | refine i_tk rfl rfl (by omega) ?_ | refine i_stb rfl ?_ | refine i_alloc rfl ?_ | refine i_box rfl rfl ?_ | refine i_nv rfl ?_ | refine c_node ?_ ?_ | refine i_g rfl (fun h => ?_) (fun h => ?_) | refine c_cond rfl (fun h => ?_) (fun h => ?_) | refine i_f rfl rfl (p1) rfl ?_ | refine i_f rfl rfl (p2) rfl ?_)
    all_goals first
      | exact e_ret ⟨rfl, _, rfl, congr_ft (mFault_hit hel hi hlt (by rw [hbad]; clear p1 p2 hel hi hbad; grind))⟩
      | exact e_for hlt (all_succ hi (by rw [hbad]; clear p1 p2 hel hi hbad; grind)) ⟨by repeat (first | exact trivial | refine ⟨rfl, ?_⟩), by repeat (first | exact trivial | refine ⟨rfl, ?_⟩), rfl⟩
  · have hge : ¬ k < m.ops.length := by simpa using h
    repeat' (first | refine i_len rfl ?_ | refine i_s rfl ?_ | refine i_lenm rfl rfl rfl ?_ | refine c_seq ?_ | refine c_cut0 ?_ | refine c_ops ?_ | refine i_nil ?_ | refine e_seq ?_ | refine e_block ?_ | refine c_block ?_ | refine c_skip ?_ | refine c_ret ?_ | refine c_exit ?_ | refine e_exit rfl ?_ | refine i_s0 rfl ?_ | refine c_leaf ?_ | refine i_gt rfl ?_ | refine i_gf rfl ?_ | refine i_gd rfl ?_ | refine c_t rfl ?_ | refine c_f rfl ?_ | refine i_conv rfl (by simp only [InR, List.length_map]; omega) ?_ | refine i_add rfl rfl (by simp only [InR, List.length_map]; omega) ?_ | refine i_sub rfl rfl (by simp only [InR, List.length_map]; omega) ?_ | refine i_ixm rfl rfl (by assumption) ?_ | refine i_iai rfl rfl (by omega) (by assumption) rfl ?_ | refine i_iam rfl rfl (by assumption) rfl ?_ | refine i_tk rfl rfl (by omega) ?_ | refine i_stb rfl ?_ | refine i_alloc rfl ?_ | refine i_box rfl rfl ?_ | refine i_nv rfl ?_ | refine c_node ?_ ?_ | refine i_g rfl (fun h => ?_) (fun h => ?_) | refine c_cond rfl (fun h => ?_) (fun h => ?_))
    exact e_ret ⟨rfl, _, rfl, congr_ft (by rw [hel, scan0_none fun j hj => hi j (by omega)]; rfl)⟩
def c_R1_MultiFault : Cmd :=
  (.seq
   (.ops [
   .op (some 1) none (.box 512068 4 (.t 0)),
   .op (some 2) none (.alloc 512130 (.agg [.int .i64 (0), .int .i64 (0)]))])
   (.cut
   (.seq
   (.seq
   (.ops [
   .op (some 6) none (.faddr 0 (.t 1)),
   .op (some 7) none (.load false 1 (.t 6)),
   .op (some 8) none (.len false (.t 7)),
   .op (some 9) none (.call .f (.c (.fn 16 [])) [.t 8, .c (.int .i64 (1)), .c (.int .i64 (8))]),
   .op (some 10) none (.not (.t 9))])
   (.cut
   (.cond (.t 10)
   (.seq
   (.ops [
   .op (some 11) none (.call .f (.c (.fn 12 [])) [.c (.int .i64 (2)), .c (.int .i64 (-1))]),
   .op none none (.store 2 (.t 2) (.t 11))])
   .ret)
   .skip)))
   (.cut
   (.seq
   (.seq
   (.ops [
   .op (some 3) none (.mov (.c (.int .i64 (0))))])
   (.cut
   (.block 0
   (.loop
   (.seq
   (.seq
   (.ops [
   .op (some 12) none (.mov (.t 3)),
   .op (some 13) none (.faddr 0 (.t 1)),
   .op (some 14) none (.load false 1 (.t 13)),
   .op (some 15) none (.len false (.t 14)),
   .op (some 16) none (.bin .lss false [] (.t 12) (.t 15))])
   (.cut
   (.cond (.t 16)
   .skip
   (.exit 0))))
   (.cut
   (.seq
   (.block 1
   (.seq
   (.ops [
   .op (some 19) none (.faddr 0 (.t 1)),
   .op (some 20) none (.load false 1 (.t 19)),
   .op (some 21) none (.mov (.t 3)),
   .op (some 22) none (.iaddr 1 (.t 20) (.t 21)),
   .op (some 23) none (.load false 1 (.t 22)),
   .op (some 24) none (.call .f (.c (.fn 16 [])) [.t 23, .c (.int .i64 (1)), .c (.int .i64 (6))]),
   .op (some 25) none (.not (.t 24))])
   (.cut
   (.cond (.t 25)
   (.seq
   (.ops [
   .op (some 26) none (.call .f (.c (.fn 12 [])) [.c (.int .i64 (3)), .c (.int .i64 (-1))]),
   .op none none (.store 2 (.t 2) (.t 26))])
   .ret)
   .skip))))
   (.cut
   (.ops [
   .op (some 17) none (.mov (.t 3)),
   .op (some 18) none (.bin .add false [] (.t 17) (.c (.int .i64 (1)))),
   .op (some 3) none (.mov (.t 18))])))))))))
   (.cut
   (.seq
   (.seq
   (.ops [
   .op (some 27) none (.load true 4 (.t 1)),
   .op (some 28) none (.faddr 1 (.t 1)),
   .op (some 29) none (.load false 1 (.t 28)),
   .op (some 30) none (.call .f (.c (.fn 11 [])) [.t 27, .t 29]),
   .op (some 31) none (.not (.t 30))])
   (.cut
   (.cond (.t 31)
   (.seq
   (.ops [
   .op (some 32) none (.call .f (.c (.fn 12 [])) [.c (.int .i64 (5)), .c (.int .i64 (-2))]),
   .op none none (.store 2 (.t 2) (.t 32))])
   .ret)
   .skip)))
   (.cut
   (.seq
   (.seq
   (.ops [
   .op (some 33) none (.load true 4 (.t 1)),
   .op (some 34) none (.faddr 2 (.t 1)),
   .op (some 35) none (.load false 1 (.t 34)),
   .op (some 36) none (.call .f (.c (.fn 31 [])) [.t 33, .t 35]),
   .op (some 37) none (.not (.t 36))])
   (.cut
   (.cond (.t 37)
   (.seq
   (.ops [
   .op (some 38) none (.call .f (.c (.fn 12 [])) [.c (.int .i64 (5)), .c (.int .i64 (-3))]),
   .op none none (.store 2 (.t 2) (.t 38))])
   .ret)
   .skip)))
   (.cut
   (.seq
   (.seq
   (.ops [
   .op (some 39) none (.faddr 3 (.t 1)),
   .op (some 40) none (.load false 1 (.t 39)),
   .op (some 41) none (.len false (.t 40)),
   .op (some 42) none (.bin .gtr false [] (.t 41) (.c (.int .i64 (40))))])
   (.cut
   (.cond (.t 42)
   (.seq
   (.ops [
   .op (some 43) none (.call .f (.c (.fn 12 [])) [.c (.int .i64 (2)), .c (.int .i64 (-1))]),
   .op none none (.store 2 (.t 2) (.t 43))])
   .ret)
   .skip)))
   (.cut
   (.seq
   (.seq
   (.ops [
   .op (some 4) none (.mov (.c (.int .i64 (0))))])
   (.cut
   (.block 2
   (.loop
   (.seq
   (.seq
   (.ops [
   .op (some 44) none (.mov (.t 4)),
   .op (some 45) none (.faddr 3 (.t 1)),
   .op (some 46) none (.load false 1 (.t 45)),
   .op (some 47) none (.len false (.t 46)),
   .op (some 48) none (.bin .lss false [] (.t 44) (.t 47))])
   (.cut
   (.cond (.t 48)
   .skip
   (.exit 2))))
   (.cut
   (.seq
   (.block 3
   (.seq
   (.ops [
   .op (some 51) none (.faddr 3 (.t 1)),
   .op (some 52) none (.load false 1 (.t 51)),
   .op (some 53) none (.mov (.t 4)),
   .op (some 54) none (.iaddr 3 (.t 52) (.t 53)),
   .op (some 55) none (.load true 3 (.t 54)),
   .op (some 5) none (.alloc 512323 (.agg [.sl .nil [], .sl .nil [], .int .i64 (0)])),
   .op none none (.store 3 (.t 5) (.t 55))])
   (.cut
   (.seq
   (.seq
   (.ops [
   .op (some 56) none (.load true 4 (.t 1)),
   .op (some 57) none (.faddr 0 (.t 5)),
   .op (some 58) none (.load false 1 (.t 57)),
   .op (some 59) none (.call .f (.c (.fn 31 [])) [.t 56, .t 58]),
   .op (some 60) none (.not (.t 59)),
   .op (some 61) none (.mov (.t 60)),
   .op (some 62) (some (61, false)) (.load true 4 (.t 1)),
   .op (some 63) (some (61, false)) (.faddr 1 (.t 5)),
   .op (some 64) (some (61, false)) (.load false 1 (.t 63)),
   .op (some 65) (some (61, false)) (.call .f (.c (.fn 31 [])) [.t 62, .t 64]),
   .op (some 66) (some (61, false)) (.not (.t 65)),
   .op (some 67) none (.pick (.t 61) (.c (.bool true)) (.t 66))])
   (.cut
   (.cond (.t 67)
   (.seq
   (.ops [
   .op (some 68) none (.mov (.t 4)),
   .op (some 69) none (.call .f (.c (.fn 12 [])) [.c (.int .i64 (5)), .t 68]),
   .op none none (.store 2 (.t 2) (.t 69))])
   .ret)
   .skip)))
   (.cut
   (.seq
   (.ops [
   .op (some 70) none (.faddr 2 (.t 5)),
   .op (some 71) none (.load false 1 (.t 70)),
   .op (some 72) none (.call .f (.c (.fn 16 [])) [.t 71, .c (.int .i64 (0)), .c (.int .i64 (100))]),
   .op (some 73) none (.not (.t 72))])
   (.cut
   (.cond (.t 73)
   (.seq
   (.ops [
   .op (some 74) none (.mov (.t 4)),
   .op (some 75) none (.call .f (.c (.fn 12 [])) [.c (.int .i64 (3)), .t 74]),
   .op none none (.store 2 (.t 2) (.t 75))])
   .ret)
   .skip))))))))
   (.cut
   (.ops [
   .op (some 49) none (.mov (.t 4)),
   .op (some 50) none (.bin .add false [] (.t 49) (.c (.int .i64 (1)))),
   .op (some 4) none (.mov (.t 50))])))))))))
   (.cut
   (.seq
   (.ops [
   .op (some 76) none (.build [.int .i64 (0), .int .i64 (0)] []),
   .op none none (.store 2 (.t 2) (.t 76))])
   .ret)))))))))))))))
def r_R1_MultiFault : List RVar := [.cell true 2 2]
def n_R1_MultiFault : Nat := 77
theorem k_R1_MultiFault : chkFn Go.Proofs.Try.prog 8 n_R1_MultiFault r_R1_MultiFault c_R1_MultiFault = true := by kernel_rfl
theorem f_R1_MultiFault (m : MTask) (ho : MOk m) : Fc Go.Proofs.Try.prog 8 [mtV m] (ftV (mFault m)) := by
  obtain ⟨l1, l2, l3, l4, l5⟩ := ho
  refine Fn.step mixed k_R1_MultiFault ?_
  repeat' (first | refine i_len rfl ?_ | refine i_s rfl ?_ | refine i_lenm rfl rfl rfl ?_ | refine c_seq ?_ | refine c_cut0 ?_ | refine c_ops ?_ | refine i_nil ?_ | refine e_seq ?_ | refine e_block ?_ | refine c_block ?_ | refine c_skip ?_ | refine c_ret ?_ | refine c_exit ?_ | refine e_exit rfl ?_ | refine i_s0 rfl ?_ | refine c_leaf ?_ | refine i_gt rfl ?_ | refine i_gf rfl ?_ | refine i_gd rfl ?_ | refine c_t rfl ?_ | refine c_f rfl ?_ | refine i_conv rfl (by simp only [InR, List.length_map]; omega) ?_ | refine i_add rfl rfl (by simp only [InR, List.length_map]; omega) ?_ | refine i_sub rfl rfl (by simp only [InR, List.length_map]; omega) ?_ | refine i_ixm rfl rfl (by assumption) ?_ | refine i_iai rfl rfl (by omega) (by assumption) rfl ?_ | refine i_iam rfl rfl (by assumption) rfl ?_ | refine i_tk rfl rfl (by omega) ?_ | refine i_stb rfl ?_ | refine i_alloc rfl ?_ | refine i_box rfl rfl ?_ | refine i_nv rfl ?_ | refine c_node ?_ ?_ | refine i_g rfl (fun h => ?_) (fun h => ?_) | refine c_cond rfl (fun h => ?_) (fun h => ?_) | refine i_f rfl rfl (f_R1_In _ _ _) rfl ?_ | refine i_f rfl rfl (f_R1_At _ _) rfl ?_)
  · exact e_ret ⟨rfl, _, rfl, congr_ft (mFault_sz (by clear l5; grind))⟩
  have hlen : ¬ (m.sizes.length = 0 ∨ m.sizes.length > 8) := by clear l5; grind
  clear h
  refine c_for m.sizes.length (fun k => [(1, .bptr 512068 0), (2, .bptr 512130 0), (3, .int .i64 k)]) (fun _ => [(512068, .box (mtV m)), (512130, .box (ftV okF))]) (fun k => (m.sizes.take k).any szBad = false) (by simp) ⟨by repeat (first | exact trivial | refine ⟨rfl, ?_⟩), by repeat (first | exact trivial | refine ⟨rfl, ?_⟩), rfl⟩ fun k hk hi => ?_
  repeat (first | refine i_len rfl ?_ | refine i_s rfl ?_ | refine i_lenm rfl rfl rfl ?_ | refine c_seq ?_ | refine c_cut0 ?_ | refine c_ops ?_ | refine i_nil ?_ | refine e_seq ?_ | refine e_block ?_ | refine c_block ?_ | refine c_skip ?_ | refine c_ret ?_ | refine c_exit ?_ | refine e_exit rfl ?_ | refine i_s0 rfl ?_ | refine c_leaf ?_ | refine i_gt rfl ?_ | refine i_gf rfl ?_ | refine i_gd rfl ?_ | refine c_t rfl ?_ | refine c_f rfl ?_ | refine i_conv rfl (by simp only [InR, List.length_map]; omega) ?_ | refine i_add rfl rfl (by simp only [InR, List.length_map]; omega) ?_ | refine i_sub rfl rfl (by simp only [InR, List.length_map]; omega) ?_ | refine i_ixm rfl rfl (by assumption) ?_ | refine i_iai rfl rfl (by omega) (by assumption) rfl ?_ | refine i_iam rfl rfl (by assumption) rfl ?_ | refine i_tk rfl rfl (by omega) ?_ | refine i_stb rfl ?_ | refine i_alloc rfl ?_ | refine i_box rfl rfl ?_ | refine i_nv rfl ?_)
  refine c_cond rfl (fun h => ?_) (fun h => ?_)
  · have hlt : k < m.sizes.length := by simpa using h
    obtain ⟨z, hz⟩ := get_some hlt
    clear h
    repeat' (first | refine i_len rfl ?_ | refine i_s rfl ?_ | refine i_lenm rfl rfl rfl ?_ | refine c_seq ?_ | refine c_cut0 ?_ | refine c_ops ?_ | refine i_nil ?_ | refine e_seq ?_ | refine e_block ?_ | refine c_block ?_ | refine c_skip ?_ | refine c_ret ?_ | refine c_exit ?_ | refine e_exit rfl ?_ | refine i_s0 rfl ?_ | refine c_leaf ?_ | refine i_gt rfl ?_ | refine i_gf rfl ?_ | refine i_gd rfl ?_ | refine c_t rfl ?_ | refine c_f rfl ?_ | refine i_conv rfl (by simp only [InR, List.length_map]; omega) ?_ | refine i_add rfl rfl (by simp only [InR, List.length_map]; omega) ?_ | refine i_sub rfl rfl (by simp only [InR, List.length_map]; omega) ?_ | refine i_ixm rfl rfl (by assumption) ?_ | refine i_iai rfl rfl (by omega) (by assumption) rfl ?_ | refine i_iam rfl rfl (by assumption) rfl ?_ | refine i_tk rfl rfl (by omega) ?_ | refine i_stb rfl ?_ | refine i_alloc rfl ?_ | refine i_box rfl rfl ?_ | refine i_nv rfl ?_ | refine c_node ?_ ?_ | refine i_g rfl (fun h => ?_) (fun h => ?_) | refine c_cond rfl (fun h => ?_) (fun h => ?_) | refine i_f rfl rfl (f_R1_In _ _ _) rfl ?_ | refine i_f rfl rfl (f_R1_At _ _) rfl ?_)
    · refine e_ret ⟨rfl, _, rfl, congr_ft (mFault_rg hlen ?_)⟩
      exact List.any_eq_true.2 ⟨z, mem_get hz, by unfold szBad; clear l5 hi; grind⟩
    · refine e_for hlt ?_ ⟨by repeat (first | exact trivial | refine ⟨rfl, ?_⟩), by repeat (first | exact trivial | refine ⟨rfl, ?_⟩), rfl⟩
      rw [take_succ_get hz, List.any_append, hi]
      simp only [List.any_cons, List.any_nil, Bool.or_false, Bool.false_or]
      unfold szBad; clear l5 hi; grind
  have hge : ¬ k < m.sizes.length := by simpa using h
  rw [List.take_of_length_le (by omega)] at hi
  have hf : MF1 m := ⟨hlen, hi⟩
  have hI := f_R1_MultiState m m.init l2 hf.rng
  have hA := f_R1_Assigns m m.goal l3 l1 hf.rng
  have hop : ∀ o ∈ m.ops, Fc Go.Proofs.Try.prog 31 [mtV m, .sl .p (o.pre.map asV)] (.bool (asB m.sizes o.pre)) ∧ Fc Go.Proofs.Try.prog 31 [mtV m, .sl .p (o.post.map asV)] (.bool (asB m.sizes o.post)) :=
    fun o h => ⟨f_R1_Assigns m o.pre (l5 o h).1 l1 hf.rng, f_R1_Assigns m o.post (l5 o h).2 l1 hf.rng⟩
  clear h hge hi hk l5
  repeat' (first | refine i_len rfl ?_ | refine i_s rfl ?_ | refine i_lenm rfl rfl rfl ?_ | refine c_seq ?_ | refine c_cut0 ?_ | refine c_ops ?_ | refine i_nil ?_ | refine e_seq ?_ | refine e_block ?_ | refine c_block ?_ | refine c_skip ?_ | refine c_ret ?_ | refine c_exit ?_ | refine e_exit rfl ?_ | refine i_s0 rfl ?_ | refine c_leaf ?_ | refine i_gt rfl ?_ | refine i_gf rfl ?_ | refine i_gd rfl ?_ | refine c_t rfl ?_ | refine c_f rfl ?_ | refine i_conv rfl (by simp only [InR, List.length_map]; omega) ?_ | refine i_add rfl rfl (by simp only [InR, List.length_map]; omega) ?_ | refine i_sub rfl rfl (by simp only [InR, List.length_map]; omega) ?_ | refine i_ixm rfl rfl (by assumption) ?_ | refine i_iai rfl rfl (by omega) (by assumption) rfl ?_ | refine i_iam rfl rfl (by assumption) rfl ?_ | refine i_tk rfl rfl (by omega) ?_ | refine i_stb rfl ?_ | refine i_alloc rfl ?_ | refine i_box rfl rfl ?_ | refine i_nv rfl ?_ | refine c_node ?_ ?_ | refine i_g rfl (fun h => ?_) (fun h => ?_) | refine c_cond rfl (fun h => ?_) (fun h => ?_) | refine i_f rfl rfl (hI) rfl ?_ | refine i_f rfl rfl (hA) rfl ?_ | refine i_f rfl rfl (f_R1_At _ _) rfl ?_)
  · exact e_ret ⟨rfl, _, rfl, congr_ft (mFault_in hf (by clear hI hA hop; grind))⟩
  · exact e_ret ⟨rfl, _, rfl, congr_ft (mFault_go hf (by clear hI hA hop; grind) (by clear hI hA hop; grind))⟩
  · exact e_ret ⟨rfl, _, rfl, congr_ft (mFault_op hf (by clear hI hA hop; grind) (by clear hI hA hop; grind) (by clear hI hA hop; grind))⟩
  have hel := mFault_el hf (by clear hI hA hop; grind) (by clear hI hA hop; grind) (by clear hI hA hop; grind)
  clear hI hA
  clear hf hlen l1 l2 l3
  refine c_for m.ops.length (fun k => [(1, .bptr 512068 0), (2, .bptr 512130 0), (4, .int .i64 k)]) (fun _ => [(512068, .box (mtV m)), (512130, .box (ftV okF))]) (fun k => ∀ j, j < k → opBad m.sizes m.ops j = none) all_zero ⟨by repeat (first | exact trivial | refine ⟨rfl, ?_⟩), by repeat (first | exact trivial | refine ⟨rfl, ?_⟩), rfl⟩ fun k hk hi => ?_
  repeat (first | refine i_len rfl ?_ | refine i_s rfl ?_ | refine i_lenm rfl rfl rfl ?_ | refine c_seq ?_ | refine c_cut0 ?_ | refine c_ops ?_ | refine i_nil ?_ | refine e_seq ?_ | refine e_block ?_ | refine c_block ?_ | refine c_skip ?_ | refine c_ret ?_ | refine c_exit ?_ | refine e_exit rfl ?_ | refine i_s0 rfl ?_ | refine c_leaf ?_ | refine i_gt rfl ?_ | refine i_gf rfl ?_ | refine i_gd rfl ?_ | refine c_t rfl ?_ | refine c_f rfl ?_ | refine i_conv rfl (by simp only [InR, List.length_map]; omega) ?_ | refine i_add rfl rfl (by simp only [InR, List.length_map]; omega) ?_ | refine i_sub rfl rfl (by simp only [InR, List.length_map]; omega) ?_ | refine i_ixm rfl rfl (by assumption) ?_ | refine i_iai rfl rfl (by omega) (by assumption) rfl ?_ | refine i_iam rfl rfl (by assumption) rfl ?_ | refine i_tk rfl rfl (by omega) ?_ | refine i_stb rfl ?_ | refine i_alloc rfl ?_ | refine i_box rfl rfl ?_ | refine i_nv rfl ?_)
  refine c_cond rfl (fun h => ?_) (fun h => ?_)
  · have hlt : k < m.ops.length := by simpa using h
    obtain ⟨o, ho⟩ := get_some hlt
    obtain ⟨p1, p2⟩ := hop o (mem_get ho)
    clear hop h
    have hbad : opBad m.sizes m.ops k = if asB m.sizes o.pre = false ∨ asB m.sizes o.post = false then some ⟨5, k⟩ else if o.cost < 0 ∨ o.cost > 100 then some ⟨3, k⟩ else none := by simp [opBad, ho]
    repeat' (first | refine i_len rfl ?_ | refine i_s rfl ?_ | refine i_lenm rfl rfl rfl ?_ | refine c_seq ?_ | refine c_cut0 ?_ | refine c_ops ?_ | refine i_nil ?_ | refine e_seq ?_ | refine e_block ?_ | refine c_block ?_ | refine c_skip ?_ | refine c_ret ?_ | refine c_exit ?_ | refine e_exit rfl ?_ | refine i_s0 rfl ?_ | refine c_leaf ?_ | refine i_gt rfl ?_ | refine i_gf rfl ?_ | refine i_gd rfl ?_ | refine c_t rfl ?_ | refine c_f rfl ?_ | refine i_conv rfl (by simp only [InR, List.length_map]; omega) ?_ | refine i_add rfl rfl (by simp only [InR, List.length_map]; omega) ?_ | refine i_sub rfl rfl (by simp only [InR, List.length_map]; omega) ?_ | refine i_ixm rfl rfl (by assumption) ?_ | refine i_iai rfl rfl (by omega) (by assumption) rfl ?_ | refine i_iam rfl rfl (by assumption) rfl ?_ | refine i_tk rfl rfl (by omega) ?_ | refine i_stb rfl ?_ | refine i_alloc rfl ?_ | refine i_box rfl rfl ?_ | refine i_nv rfl ?_ | refine c_node ?_ ?_ | refine i_g rfl (fun h => ?_) (fun h => ?_) | refine c_cond rfl (fun h => ?_) (fun h => ?_) | refine i_f rfl rfl (p1) rfl ?_ | refine i_f rfl rfl (p2) rfl ?_ | refine i_f rfl rfl (f_R1_In _ _ _) rfl ?_ | refine i_f rfl rfl (f_R1_At _ _) rfl ?_)
    all_goals first
      | exact e_ret ⟨rfl, _, rfl, congr_ft (mFault_hit hel hi hlt (by rw [hbad]; clear p1 p2 hel hi hbad; grind))⟩
      | exact e_for hlt (all_succ hi (by rw [hbad]; clear p1 p2 hel hi hbad; grind)) ⟨by repeat (first | exact trivial | refine ⟨rfl, ?_⟩), by repeat (first | exact trivial | refine ⟨rfl, ?_⟩), rfl⟩
  · have hge : ¬ k < m.ops.length := by simpa using h
    repeat' (first | refine i_len rfl ?_ | refine i_s rfl ?_ | refine i_lenm rfl rfl rfl ?_ | refine c_seq ?_ | refine c_cut0 ?_ | refine c_ops ?_ | refine i_nil ?_ | refine e_seq ?_ | refine e_block ?_ | refine c_block ?_ | refine c_skip ?_ | refine c_ret ?_ | refine c_exit ?_ | refine e_exit rfl ?_ | refine i_s0 rfl ?_ | refine c_leaf ?_ | refine i_gt rfl ?_ | refine i_gf rfl ?_ | refine i_gd rfl ?_ | refine c_t rfl ?_ | refine c_f rfl ?_ | refine i_conv rfl (by simp only [InR, List.length_map]; omega) ?_ | refine i_add rfl rfl (by simp only [InR, List.length_map]; omega) ?_ | refine i_sub rfl rfl (by simp only [InR, List.length_map]; omega) ?_ | refine i_ixm rfl rfl (by assumption) ?_ | refine i_iai rfl rfl (by omega) (by assumption) rfl ?_ | refine i_iam rfl rfl (by assumption) rfl ?_ | refine i_tk rfl rfl (by omega) ?_ | refine i_stb rfl ?_ | refine i_alloc rfl ?_ | refine i_box rfl rfl ?_ | refine i_nv rfl ?_ | refine c_node ?_ ?_ | refine i_g rfl (fun h => ?_) (fun h => ?_) | refine c_cond rfl (fun h => ?_) (fun h => ?_))
    exact e_ret ⟨rfl, _, rfl, congr_ft (by rw [hel, scan0_none fun j hj => hi j (by omega)]; rfl)⟩
end Hm
end
