/- The law of plans answers true. -/
import Derived.Test.YtjkpijodocopmaaStD
section
/- The law of plans answers true. -/
namespace Hm
open Go
set_option maxRecDepth 100000
set_option maxHeartbeats 4000000
set_option linter.unusedSimpArgs false
set_option linter.unusedVariables false
theorem play_st {t : STask} {s plan : List Int} (h : stFault t s ≠ okF) : playF t s plan = stFault t s := by unfold playF; rw [if_neg h]
theorem play_sp {t : STask} {s plan : List Int} (h : stFault t s = okF) (h2 : stepsF t.ops.length plan ≠ okF) : playF t s plan = stepsF t.ops.length plan := by unfold playF; rw [if_pos h, if_neg h2]
theorem play_ok {t : STask} {s plan e : List Int} (h : stFault t s = okF) (h2 : stepsF t.ops.length plan = okF) (h3 : endS t s plan = some e) : playF t s plan = okF := by unfold playF; rw [if_pos h, if_pos h2, if_pos (run_all h3)]
theorem play_no {t : STask} {s plan e : List Int} {i : Nat} (h : stFault t s = okF) (h2 : stepsF t.ops.length plan = okF) (hi : i < plan.length) (h3 : endS t s (plan.take i) = some e) (h4 : endS t s (plan.take (i + 1)) = none) : playF t s plan = ⟨11, i⟩ := by
  have h5 := run_fail hi h3 h4
  unfold playF
  rw [if_pos h, if_pos h2, if_neg (by omega), h5]
theorem play_code (t : STask) (s plan : List Int) : (playF t s plan).code = 0 ↔ playF t s plan = okF := by
  unfold playF
  split
  · split
    · split <;> simp [okF]
    · exact stepsF_iff _ _
  · exact stFault_iff t s
theorem playL_bad {t : STask} {s plan : List Int} (h : playF t s plan ≠ okF) : playL t s plan = [] := if_neg h
theorem playL_ok {t : STask} {s plan : List Int} (h : playF t s plan = okF) : playL t s plan = s :: runT t s plan := if_pos h
theorem playF_ok {t : STask} {s plan : List Int} (h : playF t s plan = okF) : stFault t s = okF ∧ stepsF t.ops.length plan = okF ∧ ∃ e, endS t s plan = some e := by
  unfold playF at h
  split at h
  · rename_i h1
    split at h
    · rename_i h2
      split at h
      · rename_i h3
        exact ⟨h1, h2, Option.isSome_iff_exists.1 ((run_len_eq t plan s).1 h3)⟩
      · cases h
    · rename_i h2; exact absurd h h2
  · rename_i h1; exact absurd h h1
def c_L1_StripsPlansMatchSpec : Cmd :=
  (.seq
   (.ops [
   .op (some 3) none (.box 256196 4 (.t 0)),
   .op (some 6) none (.mov (.c (.bool false)))])
   (.cut
   (.seq
   (.seq
   (.ops [
   .op (some 20) none (.call .f (.c (.fn 10 [])) []),
   .op (some 21) none (.not (.t 20))])
   (.cut
   (.cond (.t 21)
   (.seq
   (.ops [
   .op (some 6) none (.mov (.c (.bool false)))])
   .ret)
   .skip)))
   (.cut
   (.seq
   (.ops [
   .op (some 22) none (.load true 4 (.t 3)),
   .op (some 23) none (.mov (.t 2)),
   .op (some 24) none (.call .f (.c (.fn 23 [])) [.t 22, .t 23]),
   .op (some 7) none (.alloc 256450 (.agg [.int .i64 (0), .int .i64 (0)])),
   .op none none (.store 2 (.t 7) (.t 24))])
   (.cut
   (.seq
   (.ops [
   .op (some 26) none (.load true 4 (.t 3)),
   .op (some 27) none (.mov (.t 2)),
   .op (some 28) none (.call .f (.c (.fn 24 [])) [.t 26, .t 27]),
   .op (some 25) none (.mov (.t 28)),
   .op (some 29) none (.extract (.t 25) 0),
   .op (some 30) none (.extract (.t 25) 1),
   .op (some 9) none (.alloc 256578 (.agg [.int .i64 (0), .int .i64 (0)])),
   .op (some 8) none (.mov (.t 29)),
   .op none none (.store 2 (.t 9) (.t 30))])
   (.cut
   (.seq
   (.ops [
   .op (some 32) none (.load true 4 (.t 3)),
   .op (some 33) none (.mov (.t 2)),
   .op (some 34) none (.call .f (.c (.fn 25 [])) [.t 32, .t 33]),
   .op (some 31) none (.mov (.t 34)),
   .op (some 35) none (.extract (.t 31) 0),
   .op (some 36) none (.extract (.t 31) 1),
   .op (some 11) none (.alloc 256706 (.agg [.int .i64 (0), .int .i64 (0)])),
   .op (some 10) none (.mov (.t 35)),
   .op none none (.store 2 (.t 11) (.t 36))])
   (.cut
   (.seq
   (.seq
   (.ops [
   .op (some 37) none (.load true 2 (.t 9)),
   .op (some 38) none (.load true 2 (.t 7)),
   .op (some 39) none (.bin .neq true [.i, .i] (.t 37) (.t 38)),
   .op (some 40) none (.mov (.t 39)),
   .op (some 41) (some (40, false)) (.load true 2 (.t 11)),
   .op (some 42) (some (40, false)) (.load true 2 (.t 7)),
   .op (some 43) (some (40, false)) (.bin .neq true [.i, .i] (.t 41) (.t 42)),
   .op (some 44) none (.pick (.t 40) (.c (.bool true)) (.t 43)),
   .op (some 45) none (.mov (.t 44)),
   .op (some 46) (some (45, false)) (.mov (.t 8)),
   .op (some 47) (some (45, false)) (.faddr 0 (.t 7)),
   .op (some 48) (some (45, false)) (.load false 1 (.t 47)),
   .op (some 49) (some (45, false)) (.bin .eql false [.i] (.t 48) (.c (.int .i64 (0)))),
   .op (some 50) (some (45, false)) (.mov (.t 49)),
   .op (some 51) (some (50, true)) (.load true 4 (.t 3)),
   .op (some 52) (some (50, true)) (.mov (.t 2)),
   .op (some 53) (some (50, true)) (.call .f (.c (.fn 26 [])) [.t 51, .t 52]),
   .op (some 54) (some (45, false)) (.pick (.t 50) (.t 53) (.c (.bool false))),
   .op (some 55) (some (45, false)) (.bin .neq false [.b] (.t 46) (.t 54)),
   .op (some 56) none (.pick (.t 45) (.c (.bool true)) (.t 55)),
   .op (some 57) none (.mov (.t 56)),
   .op (some 58) (some (57, false)) (.faddr 0 (.t 7)),
   .op (some 59) (some (57, false)) (.load false 1 (.t 58)),
   .op (some 60) (some (57, false)) (.bin .neq false [.i] (.t 59) (.c (.int .i64 (0)))),
   .op (some 61) (some (57, false)) (.mov (.t 60)),
   .op (some 62) (some (61, true)) (.mov (.t 10)),
   .op (some 63) (some (61, true)) (.bin .neq false [.i] (.t 62) (.c (.int .i64 (0)))),
   .op (some 64) (some (57, false)) (.pick (.t 61) (.t 63) (.c (.bool false))),
   .op (some 65) none (.pick (.t 57) (.c (.bool true)) (.t 64)),
   .op (some 66) none (.mov (.t 65)),
   .op (some 67) (some (66, false)) (.faddr 0 (.t 7)),
   .op (some 68) (some (66, false)) (.load false 1 (.t 67)),
   .op (some 69) (some (66, false)) (.bin .eql false [.i] (.t 68) (.c (.int .i64 (0)))),
   .op (some 70) (some (66, false)) (.mov (.t 69)),
   .op (some 71) (some (70, true)) (.mov (.t 10)),
   .op (some 72) (some (70, true)) (.load true 4 (.t 3)),
   .op (some 73) (some (70, true)) (.mov (.t 2)),
   .op (some 74) (some (70, true)) (.call .f (.c (.fn 27 [])) [.t 72, .t 73]),
   .op (some 75) (some (70, true)) (.bin .neq false [.i] (.t 71) (.t 74)),
   .op (some 76) (some (66, false)) (.pick (.t 70) (.t 75) (.c (.bool false))),
   .op (some 77) none (.pick (.t 66) (.c (.bool true)) (.t 76))])
   (.cut
   (.cond (.t 77)
   (.seq
   (.ops [
   .op (some 6) none (.mov (.c (.bool false)))])
   .ret)
   .skip)))
   (.cut
   (.seq
   (.ops [
   .op (some 78) none (.load true 4 (.t 3)),
   .op (some 79) none (.mov (.t 1)),
   .op (some 80) none (.call .f (.c (.fn 9 [])) [.t 78, .t 79]),
   .op none none (.store 2 (.t 7) (.t 80))])
   (.cut
   (.seq
   (.seq
   (.ops [
   .op (some 81) none (.faddr 0 (.t 7)),
   .op (some 82) none (.load false 1 (.t 81)),
   .op (some 83) none (.bin .eql false [.i] (.t 82) (.c (.int .i64 (0))))])
   (.cut
   (.cond (.t 83)
   (.ops [
   .op (some 84) none (.faddr 3 (.t 3)),
   .op (some 85) none (.load false 1 (.t 84)),
   .op (some 86) none (.len false (.t 85)),
   .op (some 87) none (.mov (.t 2)),
   .op (some 88) none (.call .f (.c (.fn 28 [])) [.t 86, .t 87]),
   .op none none (.store 2 (.t 7) (.t 88))])
   .skip)))
   (.cut
   (.seq
   (.seq
   (.ops [
   .op (some 12) none (.mov (.c (.int .i64 (0))))])
   (.cut
   (.block 0
   (.loop
   (.seq
   (.seq
   (.ops [
   .op (some 89) none (.mov (.t 12)),
   .op (some 90) none (.mov (.t 2)),
   .op (some 91) none (.len false (.t 90)),
   .op (some 92) none (.bin .lss false [] (.t 89) (.t 91)),
   .op (some 93) none (.mov (.t 92)),
   .op (some 94) (some (93, true)) (.faddr 0 (.t 7)),
   .op (some 95) (some (93, true)) (.load false 1 (.t 94)),
   .op (some 96) (some (93, true)) (.bin .eql false [.i] (.t 95) (.c (.int .i64 (0)))),
   .op (some 97) none (.pick (.t 93) (.t 96) (.c (.bool false)))])
   (.cut
   (.cond (.t 97)
   .skip
   (.exit 0))))
   (.cut
   (.seq
   (.block 1
   (.seq
   (.ops [
   .op (some 101) none (.load true 4 (.t 3)),
   .op (some 102) none (.mov (.t 1)),
   .op (some 103) none (.mov (.t 2)),
   .op (some 104) none (.mov (.t 12)),
   .op (some 105) none (.bin .add false [] (.t 104) (.c (.int .i64 (1)))),
   .op (some 106) none (.slice false 1 (.t 103) none (some (.t 105))),
   .op (some 107) none (.call .f (.c (.fn 29 [])) [.t 101, .t 102, .t 106]),
   .op (some 100) none (.mov (.t 107)),
   .op (some 108) none (.extract (.t 100) 0),
   .op (some 109) none (.extract (.t 100) 1),
   .op (some 13) none (.mov (.t 108)),
   .op (some 14) none (.mov (.t 109))])
   (.cut
   (.seq
   (.ops [
   .op (some 110) none (.mov (.t 14)),
   .op (some 111) none (.not (.t 110))])
   (.cut
   (.cond (.t 111)
   (.ops [
   .op (some 112) none (.mov (.t 12)),
   .op (some 113) none (.call .f (.c (.fn 17 [])) [.c (.int .i64 (11)), .t 112]),
   .op none none (.store 2 (.t 7) (.t 113))])
   .skip))))))
   (.cut
   (.ops [
   .op (some 98) none (.mov (.t 12)),
   .op (some 99) none (.bin .add false [] (.t 98) (.c (.int .i64 (1)))),
   .op (some 12) none (.mov (.t 99))])))))))))
   (.cut
   (.seq
   (.ops [
   .op (some 115) none (.load true 4 (.t 3)),
   .op (some 116) none (.mov (.t 1)),
   .op (some 117) none (.mov (.t 2)),
   .op (some 118) none (.call .f (.c (.fn 30 [])) [.t 115, .t 116, .t 117]),
   .op (some 114) none (.mov (.t 118)),
   .op (some 119) none (.extract (.t 114) 0),
   .op (some 120) none (.extract (.t 114) 1),
   .op (some 16) none (.alloc 257026 (.agg [.int .i64 (0), .int .i64 (0)])),
   .op (some 15) none (.mov (.t 119)),
   .op none none (.store 2 (.t 16) (.t 120))])
   (.cut
   (.seq
   (.seq
   (.ops [
   .op (some 121) none (.load true 2 (.t 16)),
   .op (some 122) none (.load true 2 (.t 7)),
   .op (some 123) none (.bin .neq true [.i, .i] (.t 121) (.t 122)),
   .op (some 124) none (.mov (.t 123)),
   .op (some 125) (some (124, false)) (.faddr 0 (.t 7)),
   .op (some 126) (some (124, false)) (.load false 1 (.t 125)),
   .op (some 127) (some (124, false)) (.bin .neq false [.i] (.t 126) (.c (.int .i64 (0)))),
   .op (some 128) none (.pick (.t 124) (.c (.bool true)) (.t 127))])
   (.cut
   (.cond (.t 128)
   (.seq
   (.ops [
   .op (some 129) none (.load true 2 (.t 16)),
   .op (some 130) none (.load true 2 (.t 7)),
   .op (some 131) none (.bin .eql true [.i, .i] (.t 129) (.t 130)),
   .op (some 132) none (.mov (.t 131)),
   .op (some 133) (some (132, true)) (.mov (.t 15)),
   .op (some 134) (some (132, true)) (.len false (.t 133)),
   .op (some 135) (some (132, true)) (.bin .eql false [.i] (.t 134) (.c (.int .i64 (0)))),
   .op (some 136) none (.pick (.t 132) (.t 135) (.c (.bool false))),
   .op (some 6) none (.mov (.t 136))])
   .ret)
   .skip)))
   (.cut
   (.seq
   (.seq
   (.ops [
   .op (some 17) none (.mov (.c (.int .i64 (0))))])
   (.cut
   (.block 2
   (.loop
   (.seq
   (.seq
   (.ops [
   .op (some 137) none (.mov (.t 17)),
   .op (some 138) none (.mov (.t 15)),
   .op (some 139) none (.len false (.t 138)),
   .op (some 140) none (.bin .lss false [] (.t 137) (.t 139))])
   (.cut
   (.cond (.t 140)
   .skip
   (.exit 2))))
   (.cut
   (.seq
   (.block 3
   (.seq
   (.ops [
   .op (some 144) none (.load true 4 (.t 3)),
   .op (some 145) none (.mov (.t 1)),
   .op (some 146) none (.mov (.t 2)),
   .op (some 147) none (.mov (.t 17)),
   .op (some 148) none (.slice false 1 (.t 146) none (some (.t 147))),
   .op (some 149) none (.call .f (.c (.fn 29 [])) [.t 144, .t 145, .t 148]),
   .op (some 143) none (.mov (.t 149)),
   .op (some 150) none (.extract (.t 143) 0),
   .op (some 151) none (.extract (.t 143) 1),
   .op (some 18) none (.mov (.t 150)),
   .op (some 19) none (.mov (.t 151))])
   (.cut
   (.seq
   (.ops [
   .op (some 152) none (.mov (.t 15)),
   .op (some 153) none (.mov (.t 17)),
   .op (some 154) none (.iaddr 1 (.t 152) (.t 153)),
   .op (some 155) none (.load false 1 (.t 154)),
   .op (some 156) none (.mov (.t 18)),
   .op (some 157) none (.call .f (.c (.fn 15 [])) [.t 155, .t 156]),
   .op (some 158) none (.not (.t 157))])
   (.cut
   (.cond (.t 158)
   (.seq
   (.ops [
   .op (some 6) none (.mov (.c (.bool false)))])
   .ret)
   .skip))))))
   (.cut
   (.ops [
   .op (some 141) none (.mov (.t 17)),
   .op (some 142) none (.bin .add false [] (.t 141) (.c (.int .i64 (1)))),
   .op (some 17) none (.mov (.t 142))])))))))))
   (.cut
   (.seq
   (.ops [
   .op (some 159) none (.mov (.t 15)),
   .op (some 160) none (.len false (.t 159)),
   .op (some 161) none (.mov (.t 2)),
   .op (some 162) none (.len false (.t 161)),
   .op (some 163) none (.bin .add false [] (.t 162) (.c (.int .i64 (1)))),
   .op (some 164) none (.bin .eql false [.i] (.t 160) (.t 163)),
   .op (some 6) none (.mov (.t 164))])
   .ret)))))))))))))))))))))))))
def r_L1_StripsPlansMatchSpec : List RVar := [.tmp 6]
def n_L1_StripsPlansMatchSpec : Nat := 165
theorem k_L1_StripsPlansMatchSpec : chkFn Go.Proofs.Try.prog 4 n_L1_StripsPlansMatchSpec r_L1_StripsPlansMatchSpec c_L1_StripsPlansMatchSpec = true := by kernel_rfl
theorem f_L1_StripsPlansMatchSpec_st (t : STask) (ho : SkOk t) (s plan : List Int) (hs : s.length ≤ 140737488355328) (hl : plan.length ≤ 140737488355328) (hst : stFault t s ≠ okF) : Fc Go.Proofs.Try.prog 4 [skV t, .sl .p (s.map i64V), .sl .p (plan.map i64V)] (.bool true) := by
  have hT := f_L1_acts
  have l5 := ho.o
  have hF := f_R1_PlanFault t ho plan hl
  have hSF := f_R1_StateFault t ho s hs
  have hSP := f_R1_StepsFault t.ops.length ho.o plan hl
  have hP := f_strips_Play t ho s hs plan hl
  have hpf : playF t s plan ≠ okF := by rw [play_st hst]; exact hst
  rw [playL_bad hpf, play_st hst] at hP
  have hne : (stFault t s).code ≠ 0 := fun h => hst ((stFault_iff t s).1 h)
  clear hpf hst
  generalize stFault t s = F at *
  by_cases hb : plFault t plan = okF
  · obtain ⟨hv, h60, hr, _⟩ := plFault_ok hb
    have h1 := f_strips_Solves_ok t ho plan hb
    have h2 := f_strips_Cost_ok t ho plan hb
    have h3 := f_R1_Solves t hv plan (by omega) hr
    have h4 := f_R1_CostOf t hv plan h60 hr
    rw [hb] at hF
    clear hv hb hr
    generalize worksB t t.init plan = wb at *
    generalize costS t plan = cs at *
    refine Fn.step mixed k_L1_StripsPlansMatchSpec ?_
    repeat' (first | refine i_len rfl ?_ | refine i_s rfl ?_ | refine i_lenm rfl rfl rfl ?_ | refine c_seq ?_ | refine c_cut0 ?_ | refine c_ops ?_ | refine i_nil ?_ | refine e_seq ?_ | refine e_block ?_ | refine c_block ?_ | refine c_skip ?_ | refine c_ret ?_ | refine c_exit ?_ | refine e_exit rfl ?_ | refine i_s0 rfl ?_ | refine c_leaf ?_ | refine i_gt rfl ?_ | refine i_gf rfl ?_ | refine i_gd rfl ?_ | refine c_t rfl ?_ | refine c_f rfl ?_ | refine i_conv rfl (by simp only [InR, List.length_map]; omega) ?_ | refine i_add rfl rfl (by simp only [InR, List.length_map]; omega) ?_ | refine i_sub rfl rfl (by simp only [InR, List.length_map]; omega) ?_ | refine i_ixm rfl rfl (by assumption) ?_ | refine i_iai rfl rfl (by omega) (by assumption) rfl ?_ | refine i_iam rfl rfl (by assumption) rfl ?_ | refine i_tk rfl rfl (by omega) ?_ | refine i_stb rfl ?_ | refine i_alloc rfl ?_ | refine i_box rfl rfl ?_ | refine i_nv rfl ?_ | refine c_node ?_ ?_ | refine i_g rfl (fun h => ?_) (fun h => ?_) | refine c_cond rfl (fun h => ?_) (fun h => ?_) | refine i_f rfl rfl (hT) rfl ?_ | refine i_f rfl rfl (hF) rfl ?_ | refine i_f rfl rfl (h1) rfl ?_ | refine i_f rfl rfl (h2) rfl ?_ | refine i_f rfl rfl (h3) rfl ?_ | refine i_f rfl rfl (h4) rfl ?_ | refine i_f rfl rfl (hSF) rfl ?_ | refine i_f rfl rfl (hSP) rfl ?_)
    all_goals first | (exfalso; clear hT hF h1 h2 h3 h4 hSF hSP hP ho; simp at *; done) | (exfalso; clear hT hF h1 h2 h3 h4 hSF hSP hP ho; simp at *; omega) | skip
    refine c_for 0 (fun k => [(1, .sl .p (s.map i64V)), (2, .sl .p (plan.map i64V)), (3, .bptr 256196 0), (7, .bptr 256450 0), (12, .int .i64 k)]) (fun _ => [(256196, .box (skV t)), (256450, .box (ftV F))]) (fun _ => True) trivial ⟨by repeat (first | exact trivial | refine ⟨rfl, ?_⟩), by repeat (first | exact trivial | refine ⟨rfl, ?_⟩), rfl⟩ fun k hk _ => ?_
    have hk0 : k = 0 := by omega
    subst hk0
    clear hT hF h1 h2 h3 h4 hSF hSP
    repeat' (first | refine i_len rfl ?_ | refine i_s rfl ?_ | refine i_lenm rfl rfl rfl ?_ | refine c_seq ?_ | refine c_cut0 ?_ | refine c_ops ?_ | refine i_nil ?_ | refine e_seq ?_ | refine e_block ?_ | refine c_block ?_ | refine c_skip ?_ | refine c_ret ?_ | refine c_exit ?_ | refine e_exit rfl ?_ | refine i_s0 rfl ?_ | refine c_leaf ?_ | refine i_gt rfl ?_ | refine i_gf rfl ?_ | refine i_gd rfl ?_ | refine c_t rfl ?_ | refine c_f rfl ?_ | refine i_conv rfl (by simp only [InR, List.length_map]; omega) ?_ | refine i_add rfl rfl (by simp only [InR, List.length_map]; omega) ?_ | refine i_sub rfl rfl (by simp only [InR, List.length_map]; omega) ?_ | refine i_ixm rfl rfl (by assumption) ?_ | refine i_iai rfl rfl (by omega) (by assumption) rfl ?_ | refine i_iam rfl rfl (by assumption) rfl ?_ | refine i_tk rfl rfl (by omega) ?_ | refine i_stb rfl ?_ | refine i_alloc rfl ?_ | refine i_box rfl rfl ?_ | refine i_nv rfl ?_ | refine c_node ?_ ?_ | refine i_g rfl (fun h => ?_) (fun h => ?_) | refine c_cond rfl (fun h => ?_) (fun h => ?_) | refine i_f rfl rfl (hP) rfl ?_)
    all_goals first
      | exact e_ret ⟨rfl, _, rfl, rfl⟩
      | (exfalso; clear hP ho; simp at *; done)
      | (exfalso; clear hP ho; simp at *; omega)
  · have h1 := f_strips_Solves_bad t ho plan hl hb
    have h2 := f_strips_Cost_bad t ho plan hl hb
    have h3 := True.intro
    have h4 := True.intro
    have hnb : (plFault t plan).code ≠ 0 := fun h => hb ((plFault_iff t plan).1 h)
    clear hb
    generalize plFault t plan = W at *
    refine Fn.step mixed k_L1_StripsPlansMatchSpec ?_
    repeat' (first | refine i_len rfl ?_ | refine i_s rfl ?_ | refine i_lenm rfl rfl rfl ?_ | refine c_seq ?_ | refine c_cut0 ?_ | refine c_ops ?_ | refine i_nil ?_ | refine e_seq ?_ | refine e_block ?_ | refine c_block ?_ | refine c_skip ?_ | refine c_ret ?_ | refine c_exit ?_ | refine e_exit rfl ?_ | refine i_s0 rfl ?_ | refine c_leaf ?_ | refine i_gt rfl ?_ | refine i_gf rfl ?_ | refine i_gd rfl ?_ | refine c_t rfl ?_ | refine c_f rfl ?_ | refine i_conv rfl (by simp only [InR, List.length_map]; omega) ?_ | refine i_add rfl rfl (by simp only [InR, List.length_map]; omega) ?_ | refine i_sub rfl rfl (by simp only [InR, List.length_map]; omega) ?_ | refine i_ixm rfl rfl (by assumption) ?_ | refine i_iai rfl rfl (by omega) (by assumption) rfl ?_ | refine i_iam rfl rfl (by assumption) rfl ?_ | refine i_tk rfl rfl (by omega) ?_ | refine i_stb rfl ?_ | refine i_alloc rfl ?_ | refine i_box rfl rfl ?_ | refine i_nv rfl ?_ | refine c_node ?_ ?_ | refine i_g rfl (fun h => ?_) (fun h => ?_) | refine c_cond rfl (fun h => ?_) (fun h => ?_) | refine i_f rfl rfl (hT) rfl ?_ | refine i_f rfl rfl (hF) rfl ?_ | refine i_f rfl rfl (h1) rfl ?_ | refine i_f rfl rfl (h2) rfl ?_ | refine i_f rfl rfl (hSF) rfl ?_ | refine i_f rfl rfl (hSP) rfl ?_)
    all_goals first | (exfalso; clear hT hF h1 h2 h3 h4 hSF hSP hP ho; simp at *; done) | (exfalso; clear hT hF h1 h2 h3 h4 hSF hSP hP ho; simp at *; omega) | skip
    refine c_for 0 (fun k => [(1, .sl .p (s.map i64V)), (2, .sl .p (plan.map i64V)), (3, .bptr 256196 0), (7, .bptr 256450 0), (12, .int .i64 k)]) (fun _ => [(256196, .box (skV t)), (256450, .box (ftV F))]) (fun _ => True) trivial ⟨by repeat (first | exact trivial | refine ⟨rfl, ?_⟩), by repeat (first | exact trivial | refine ⟨rfl, ?_⟩), rfl⟩ fun k hk _ => ?_
    have hk0 : k = 0 := by omega
    subst hk0
    clear hT hF h1 h2 h3 h4 hSF hSP
    repeat' (first | refine i_len rfl ?_ | refine i_s rfl ?_ | refine i_lenm rfl rfl rfl ?_ | refine c_seq ?_ | refine c_cut0 ?_ | refine c_ops ?_ | refine i_nil ?_ | refine e_seq ?_ | refine e_block ?_ | refine c_block ?_ | refine c_skip ?_ | refine c_ret ?_ | refine c_exit ?_ | refine e_exit rfl ?_ | refine i_s0 rfl ?_ | refine c_leaf ?_ | refine i_gt rfl ?_ | refine i_gf rfl ?_ | refine i_gd rfl ?_ | refine c_t rfl ?_ | refine c_f rfl ?_ | refine i_conv rfl (by simp only [InR, List.length_map]; omega) ?_ | refine i_add rfl rfl (by simp only [InR, List.length_map]; omega) ?_ | refine i_sub rfl rfl (by simp only [InR, List.length_map]; omega) ?_ | refine i_ixm rfl rfl (by assumption) ?_ | refine i_iai rfl rfl (by omega) (by assumption) rfl ?_ | refine i_iam rfl rfl (by assumption) rfl ?_ | refine i_tk rfl rfl (by omega) ?_ | refine i_stb rfl ?_ | refine i_alloc rfl ?_ | refine i_box rfl rfl ?_ | refine i_nv rfl ?_ | refine c_node ?_ ?_ | refine i_g rfl (fun h => ?_) (fun h => ?_) | refine c_cond rfl (fun h => ?_) (fun h => ?_) | refine i_f rfl rfl (hP) rfl ?_)
    all_goals first
      | exact e_ret ⟨rfl, _, rfl, rfl⟩
      | (exfalso; clear hP ho; simp at *; done)
      | (exfalso; clear hP ho; simp at *; omega)
theorem f_L1_StripsPlansMatchSpec_sp (t : STask) (ho : SkOk t) (s plan : List Int) (hs : s.length ≤ 140737488355328) (hl : plan.length ≤ 140737488355328) (hst : stFault t s = okF) (hsp : stepsF t.ops.length plan ≠ okF) : Fc Go.Proofs.Try.prog 4 [skV t, .sl .p (s.map i64V), .sl .p (plan.map i64V)] (.bool true) := by
  have hT := f_L1_acts
  have l5 := ho.o
  have hF := f_R1_PlanFault t ho plan hl
  have hSF := f_R1_StateFault t ho s hs
  have hSP := f_R1_StepsFault t.ops.length ho.o plan hl
  have hP := f_strips_Play t ho s hs plan hl
  have hpf : playF t s plan ≠ okF := by rw [play_sp hst hsp]; exact hsp
  rw [playL_bad hpf, play_sp hst hsp] at hP
  have hpl : plFault t plan = stepsF t.ops.length plan := by unfold plFault; rw [if_pos (stFault_ok hst).2.2]
  have hb : plFault t plan ≠ okF := by rw [hpl]; exact hsp
  have h1 := f_strips_Solves_bad t ho plan hl hb
  have h2 := f_strips_Cost_bad t ho plan hl hb
  have h3 := True.intro
  have h4 := True.intro
  rw [hpl] at hF h1 h2
  rw [hst] at hSF
  have hne : (stepsF t.ops.length plan).code ≠ 0 := fun h => hsp ((stepsF_iff _ _).1 h)
  clear hpf hst hsp hpl hb
  generalize stepsF t.ops.length plan = F at *
  refine Fn.step mixed k_L1_StripsPlansMatchSpec ?_
  repeat' (first | refine i_len rfl ?_ | refine i_s rfl ?_ | refine i_lenm rfl rfl rfl ?_ | refine c_seq ?_ | refine c_cut0 ?_ | refine c_ops ?_ | refine i_nil ?_ | refine e_seq ?_ | refine e_block ?_ | refine c_block ?_ | refine c_skip ?_ | refine c_ret ?_ | refine c_exit ?_ | refine e_exit rfl ?_ | refine i_s0 rfl ?_ | refine c_leaf ?_ | refine i_gt rfl ?_ | refine i_gf rfl ?_ | refine i_gd rfl ?_ | refine c_t rfl ?_ | refine c_f rfl ?_ | refine i_conv rfl (by simp only [InR, List.length_map]; omega) ?_ | refine i_add rfl rfl (by simp only [InR, List.length_map]; omega) ?_ | refine i_sub rfl rfl (by simp only [InR, List.length_map]; omega) ?_ | refine i_ixm rfl rfl (by assumption) ?_ | refine i_iai rfl rfl (by omega) (by assumption) rfl ?_ | refine i_iam rfl rfl (by assumption) rfl ?_ | refine i_tk rfl rfl (by omega) ?_ | refine i_stb rfl ?_ | refine i_alloc rfl ?_ | refine i_box rfl rfl ?_ | refine i_nv rfl ?_ | refine c_node ?_ ?_ | refine i_g rfl (fun h => ?_) (fun h => ?_) | refine c_cond rfl (fun h => ?_) (fun h => ?_) | refine i_f rfl rfl (hT) rfl ?_ | refine i_f rfl rfl (hF) rfl ?_ | refine i_f rfl rfl (h1) rfl ?_ | refine i_f rfl rfl (h2) rfl ?_ | refine i_f rfl rfl (hSF) rfl ?_ | refine i_f rfl rfl (hSP) rfl ?_)
  all_goals first | (exfalso; clear hT hF h1 h2 h3 h4 hSF hSP hP ho; simp at *; done) | (exfalso; clear hT hF h1 h2 h3 h4 hSF hSP hP ho; simp at *; omega) | skip
  refine c_for 0 (fun k => [(1, .sl .p (s.map i64V)), (2, .sl .p (plan.map i64V)), (3, .bptr 256196 0), (7, .bptr 256450 0), (12, .int .i64 k)]) (fun _ => [(256196, .box (skV t)), (256450, .box (ftV F))]) (fun _ => True) trivial ⟨by repeat (first | exact trivial | refine ⟨rfl, ?_⟩), by repeat (first | exact trivial | refine ⟨rfl, ?_⟩), rfl⟩ fun k hk _ => ?_
  have hk0 : k = 0 := by omega
  subst hk0
  clear hT hF h1 h2 h3 h4 hSF hSP
  repeat' (first | refine i_len rfl ?_ | refine i_s rfl ?_ | refine i_lenm rfl rfl rfl ?_ | refine c_seq ?_ | refine c_cut0 ?_ | refine c_ops ?_ | refine i_nil ?_ | refine e_seq ?_ | refine e_block ?_ | refine c_block ?_ | refine c_skip ?_ | refine c_ret ?_ | refine c_exit ?_ | refine e_exit rfl ?_ | refine i_s0 rfl ?_ | refine c_leaf ?_ | refine i_gt rfl ?_ | refine i_gf rfl ?_ | refine i_gd rfl ?_ | refine c_t rfl ?_ | refine c_f rfl ?_ | refine i_conv rfl (by simp only [InR, List.length_map]; omega) ?_ | refine i_add rfl rfl (by simp only [InR, List.length_map]; omega) ?_ | refine i_sub rfl rfl (by simp only [InR, List.length_map]; omega) ?_ | refine i_ixm rfl rfl (by assumption) ?_ | refine i_iai rfl rfl (by omega) (by assumption) rfl ?_ | refine i_iam rfl rfl (by assumption) rfl ?_ | refine i_tk rfl rfl (by omega) ?_ | refine i_stb rfl ?_ | refine i_alloc rfl ?_ | refine i_box rfl rfl ?_ | refine i_nv rfl ?_ | refine c_node ?_ ?_ | refine i_g rfl (fun h => ?_) (fun h => ?_) | refine c_cond rfl (fun h => ?_) (fun h => ?_) | refine i_f rfl rfl (hP) rfl ?_)
  all_goals first
    | exact e_ret ⟨rfl, _, rfl, rfl⟩
    | (exfalso; clear hP ho; simp at *; done)
    | (exfalso; clear hP ho; simp at *; omega)
theorem f_L1_StripsPlansMatchSpec_ok (t : STask) (ho : SkOk t) (s plan : List Int) (hst : stFault t s = okF) (hsp : stepsF t.ops.length plan = okF) : Fc Go.Proofs.Try.prog 4 [skV t, .sl .p (s.map i64V), .sl .p (plan.map i64V)] (.bool true) := by
  obtain ⟨hv, hss, hsf⟩ := stFault_ok hst
  obtain ⟨h60, hr⟩ := stepsF_ok hsp
  have hsl := set_le hv hss
  have hb : plFault t plan = okF := by unfold plFault; rw [if_pos hsf, hsp]
  have hT := f_L1_acts
  have l5 := ho.o
  have hF := f_R1_PlanFault t ho plan (by omega)
  have hSF := f_R1_StateFault t ho s (by omega)
  have hSP := f_R1_StepsFault t.ops.length ho.o plan (by omega)
  have hP := f_strips_Play t ho s (by omega) plan (by omega)
  have h1 := f_strips_Solves_ok t ho plan hb
  have h2 := f_strips_Cost_ok t ho plan hb
  have h3 := f_R1_Solves t hv plan (by omega) hr
  have h4 := f_R1_CostOf t hv plan h60 hr
  rw [hb] at hF
  rw [hst] at hSF
  rw [hsp] at hSP
  generalize worksB t t.init plan = wb at *
  generalize costS t plan = cs at *
  refine Fn.step mixed k_L1_StripsPlansMatchSpec ?_
  repeat' (first | refine i_len rfl ?_ | refine i_s rfl ?_ | refine i_lenm rfl rfl rfl ?_ | refine c_seq ?_ | refine c_cut0 ?_ | refine c_ops ?_ | refine i_nil ?_ | refine e_seq ?_ | refine e_block ?_ | refine c_block ?_ | refine c_skip ?_ | refine c_ret ?_ | refine c_exit ?_ | refine e_exit rfl ?_ | refine i_s0 rfl ?_ | refine c_leaf ?_ | refine i_gt rfl ?_ | refine i_gf rfl ?_ | refine i_gd rfl ?_ | refine c_t rfl ?_ | refine c_f rfl ?_ | refine i_conv rfl (by simp only [InR, List.length_map]; omega) ?_ | refine i_add rfl rfl (by simp only [InR, List.length_map]; omega) ?_ | refine i_sub rfl rfl (by simp only [InR, List.length_map]; omega) ?_ | refine i_ixm rfl rfl (by assumption) ?_ | refine i_iai rfl rfl (by omega) (by assumption) rfl ?_ | refine i_iam rfl rfl (by assumption) rfl ?_ | refine i_tk rfl rfl (by omega) ?_ | refine i_stb rfl ?_ | refine i_alloc rfl ?_ | refine i_box rfl rfl ?_ | refine i_nv rfl ?_ | refine c_node ?_ ?_ | refine i_g rfl (fun h => ?_) (fun h => ?_) | refine c_cond rfl (fun h => ?_) (fun h => ?_) | refine i_f rfl rfl (hT) rfl ?_ | refine i_f rfl rfl (hF) rfl ?_ | refine i_f rfl rfl (h1) rfl ?_ | refine i_f rfl rfl (h2) rfl ?_ | refine i_f rfl rfl (h3) rfl ?_ | refine i_f rfl rfl (h4) rfl ?_ | refine i_f rfl rfl (hSF) rfl ?_ | refine i_f rfl rfl (hSP) rfl ?_)
  all_goals first | (exfalso; clear hT hF h1 h2 h3 h4 hSF hSP hP ho; simp at *; done) | (exfalso; clear hT hF h1 h2 h3 h4 hSF hSP hP ho; simp at *; omega) | skip
  clear hT hF h1 h2 h3 h4 hSF hSP
  refine c_lp (ι := Nat × Flt) (fun p => [(1, .sl .p (s.map i64V)), (2, .sl .p (plan.map i64V)), (3, .bptr 256196 0), (7, .bptr 256450 0), (12, .int .i64 p.1)]) (fun p => [(256196, .box (skV t)), (256450, .box (ftV p.2))])
    (fun p => p.1 ≤ plan.length ∧ ((p.2 = okF ∧ ∃ e, endS t s (plan.take p.1) = some e) ∨ (p.2 = playF t s plan ∧ p.2.code ≠ 0))) (fun p => plan.length - p.1) (0, okF) ⟨Nat.zero_le _, .inl ⟨rfl, s, rfl⟩⟩ ⟨by repeat (first | exact trivial | refine ⟨rfl, ?_⟩), by repeat (first | exact trivial | refine ⟨rfl, ?_⟩), rfl⟩ fun p hi => ?_
  obtain ⟨k, F⟩ := p
  obtain ⟨hk, hi⟩ := hi
  simp only at hk hi
  have hdone : F = playF t s plan → (F.code = 0 → F = okF) → (WC Go.Proofs.Try.prog noH [] (fnPost r_L1_StripsPlansMatchSpec (.bool true)) [] .skip (envOf []) (stOf []) () → True) := fun _ _ _ => trivial
  clear hdone
  by_cases hgo : F = okF ∧ k < plan.length
  · obtain ⟨rfl, hlt⟩ := hgo
    obtain ⟨e, he⟩ : ∃ e, endS t s (plan.take k) = some e := by
      rcases hi with h | h
      · exact h.2
      · exact absurd rfl h.2
    have hE := f_R1_Ends t hv s hss (plan.take (k + 1)) (by simp; omega) (fun x hx => hr x (List.mem_of_mem_take hx))
    have hltI : (k : Int) < plan.length := by omega
    have hno := play_no (i := k) hst hsp hlt he
    clear hi hr hP
    cases hen : endS t s (plan.take (k + 1)) with
    | some e' =>
      rw [hen] at hE
      repeat (first | refine i_len rfl ?_ | refine i_s rfl ?_ | refine i_lenm rfl rfl rfl ?_ | refine c_seq ?_ | refine c_cut0 ?_ | refine c_ops ?_ | refine i_nil ?_ | refine e_seq ?_ | refine e_block ?_ | refine c_block ?_ | refine c_skip ?_ | refine c_ret ?_ | refine c_exit ?_ | refine e_exit rfl ?_ | refine i_s0 rfl ?_ | refine c_leaf ?_ | refine i_gt rfl ?_ | refine i_gf rfl ?_ | refine i_gd rfl ?_ | refine c_t rfl ?_ | refine c_f rfl ?_ | refine i_conv rfl (by simp only [InR, List.length_map]; omega) ?_ | refine i_add rfl rfl (by simp only [InR, List.length_map]; omega) ?_ | refine i_sub rfl rfl (by simp only [InR, List.length_map]; omega) ?_ | refine i_ixm rfl rfl (by assumption) ?_ | refine i_iai rfl rfl (by omega) (by assumption) rfl ?_ | refine i_iam rfl rfl (by assumption) rfl ?_ | refine i_tk rfl rfl (by omega) ?_ | refine i_stb rfl ?_ | refine i_alloc rfl ?_ | refine i_box rfl rfl ?_ | refine i_nv rfl ?_)
      refine i_gt (by show V.bool _ = V.bool _; rw [decide_eq_true hltI]) ?_
      repeat (first | refine i_len rfl ?_ | refine i_s rfl ?_ | refine i_lenm rfl rfl rfl ?_ | refine c_seq ?_ | refine c_cut0 ?_ | refine c_ops ?_ | refine i_nil ?_ | refine e_seq ?_ | refine e_block ?_ | refine c_block ?_ | refine c_skip ?_ | refine c_ret ?_ | refine c_exit ?_ | refine e_exit rfl ?_ | refine i_s0 rfl ?_ | refine c_leaf ?_ | refine i_gt rfl ?_ | refine i_gf rfl ?_ | refine i_gd rfl ?_ | refine c_t rfl ?_ | refine c_f rfl ?_ | refine i_conv rfl (by simp only [InR, List.length_map]; omega) ?_ | refine i_add rfl rfl (by simp only [InR, List.length_map]; omega) ?_ | refine i_sub rfl rfl (by simp only [InR, List.length_map]; omega) ?_ | refine i_ixm rfl rfl (by assumption) ?_ | refine i_iai rfl rfl (by omega) (by assumption) rfl ?_ | refine i_iam rfl rfl (by assumption) rfl ?_ | refine i_tk rfl rfl (by omega) ?_ | refine i_stb rfl ?_ | refine i_alloc rfl ?_ | refine i_box rfl rfl ?_ | refine i_nv rfl ?_)
      refine i_tk (k := k + 1) rfl rfl (by omega) ?_
      repeat (first | refine i_len rfl ?_ | refine i_s rfl ?_ | refine i_lenm rfl rfl rfl ?_ | refine c_seq ?_ | refine c_cut0 ?_ | refine c_ops ?_ | refine i_nil ?_ | refine e_seq ?_ | refine e_block ?_ | refine c_block ?_ | refine c_skip ?_ | refine c_ret ?_ | refine c_exit ?_ | refine e_exit rfl ?_ | refine i_s0 rfl ?_ | refine c_leaf ?_ | refine i_gt rfl ?_ | refine i_gf rfl ?_ | refine i_gd rfl ?_ | refine c_t rfl ?_ | refine c_f rfl ?_ | refine i_conv rfl (by simp only [InR, List.length_map]; omega) ?_ | refine i_add rfl rfl (by simp only [InR, List.length_map]; omega) ?_ | refine i_sub rfl rfl (by simp only [InR, List.length_map]; omega) ?_ | refine i_ixm rfl rfl (by assumption) ?_ | refine i_iai rfl rfl (by omega) (by assumption) rfl ?_ | refine i_iam rfl rfl (by assumption) rfl ?_ | refine i_tk rfl rfl (by omega) ?_ | refine i_stb rfl ?_ | refine i_alloc rfl ?_ | refine i_box rfl rfl ?_ | refine i_nv rfl ?_ | refine i_f rfl rfl (hE) rfl ?_)
      exact e_lp (k + 1, okF) ⟨hlt, .inl ⟨rfl, e', hen⟩⟩ (by simp only; omega) ⟨by repeat (first | exact trivial | refine ⟨rfl, ?_⟩), by repeat (first | exact trivial | refine ⟨rfl, ?_⟩), rfl⟩
    | none =>
      rw [hen] at hE
      repeat (first | refine i_len rfl ?_ | refine i_s rfl ?_ | refine i_lenm rfl rfl rfl ?_ | refine c_seq ?_ | refine c_cut0 ?_ | refine c_ops ?_ | refine i_nil ?_ | refine e_seq ?_ | refine e_block ?_ | refine c_block ?_ | refine c_skip ?_ | refine c_ret ?_ | refine c_exit ?_ | refine e_exit rfl ?_ | refine i_s0 rfl ?_ | refine c_leaf ?_ | refine i_gt rfl ?_ | refine i_gf rfl ?_ | refine i_gd rfl ?_ | refine c_t rfl ?_ | refine c_f rfl ?_ | refine i_conv rfl (by simp only [InR, List.length_map]; omega) ?_ | refine i_add rfl rfl (by simp only [InR, List.length_map]; omega) ?_ | refine i_sub rfl rfl (by simp only [InR, List.length_map]; omega) ?_ | refine i_ixm rfl rfl (by assumption) ?_ | refine i_iai rfl rfl (by omega) (by assumption) rfl ?_ | refine i_iam rfl rfl (by assumption) rfl ?_ | refine i_tk rfl rfl (by omega) ?_ | refine i_stb rfl ?_ | refine i_alloc rfl ?_ | refine i_box rfl rfl ?_ | refine i_nv rfl ?_)
      refine i_gt (by show V.bool _ = V.bool _; rw [decide_eq_true hltI]) ?_
      repeat (first | refine i_len rfl ?_ | refine i_s rfl ?_ | refine i_lenm rfl rfl rfl ?_ | refine c_seq ?_ | refine c_cut0 ?_ | refine c_ops ?_ | refine i_nil ?_ | refine e_seq ?_ | refine e_block ?_ | refine c_block ?_ | refine c_skip ?_ | refine c_ret ?_ | refine c_exit ?_ | refine e_exit rfl ?_ | refine i_s0 rfl ?_ | refine c_leaf ?_ | refine i_gt rfl ?_ | refine i_gf rfl ?_ | refine i_gd rfl ?_ | refine c_t rfl ?_ | refine c_f rfl ?_ | refine i_conv rfl (by simp only [InR, List.length_map]; omega) ?_ | refine i_add rfl rfl (by simp only [InR, List.length_map]; omega) ?_ | refine i_sub rfl rfl (by simp only [InR, List.length_map]; omega) ?_ | refine i_ixm rfl rfl (by assumption) ?_ | refine i_iai rfl rfl (by omega) (by assumption) rfl ?_ | refine i_iam rfl rfl (by assumption) rfl ?_ | refine i_tk rfl rfl (by omega) ?_ | refine i_stb rfl ?_ | refine i_alloc rfl ?_ | refine i_box rfl rfl ?_ | refine i_nv rfl ?_)
      refine i_tk (k := k + 1) rfl rfl (by omega) ?_
      repeat (first | refine i_len rfl ?_ | refine i_s rfl ?_ | refine i_lenm rfl rfl rfl ?_ | refine c_seq ?_ | refine c_cut0 ?_ | refine c_ops ?_ | refine i_nil ?_ | refine e_seq ?_ | refine e_block ?_ | refine c_block ?_ | refine c_skip ?_ | refine c_ret ?_ | refine c_exit ?_ | refine e_exit rfl ?_ | refine i_s0 rfl ?_ | refine c_leaf ?_ | refine i_gt rfl ?_ | refine i_gf rfl ?_ | refine i_gd rfl ?_ | refine c_t rfl ?_ | refine c_f rfl ?_ | refine i_conv rfl (by simp only [InR, List.length_map]; omega) ?_ | refine i_add rfl rfl (by simp only [InR, List.length_map]; omega) ?_ | refine i_sub rfl rfl (by simp only [InR, List.length_map]; omega) ?_ | refine i_ixm rfl rfl (by assumption) ?_ | refine i_iai rfl rfl (by omega) (by assumption) rfl ?_ | refine i_iam rfl rfl (by assumption) rfl ?_ | refine i_tk rfl rfl (by omega) ?_ | refine i_stb rfl ?_ | refine i_alloc rfl ?_ | refine i_box rfl rfl ?_ | refine i_nv rfl ?_ | refine i_f rfl rfl (hE) rfl ?_ | refine i_f rfl rfl (f_R1_At _ _) rfl ?_)
      exact e_lp (k + 1, ⟨11, k⟩) ⟨hlt, .inr ⟨(hno hen).symm, by simp⟩⟩ (by simp only; omega) ⟨by repeat (first | exact trivial | refine ⟨rfl, ?_⟩), by repeat (first | exact trivial | refine ⟨rfl, ?_⟩), rfl⟩
  · have hpF : F = playF t s plan := by
      rcases hi with ⟨rfl, e, he⟩ | h
      · have hkl : k = plan.length := by
          have : ¬ k < plan.length := fun h => hgo ⟨rfl, h⟩
          omega
        rw [hkl, List.take_length] at he
        exact (play_ok hst hsp he).symm
      · exact h.1
    have hex : ¬ ((k : Int) < plan.length ∧ F.code = 0) := by
      rintro ⟨h1, h2⟩
      refine hgo ⟨?_, by omega⟩
      rw [hpF] at h2 ⊢
      exact (play_code t s plan).1 h2
    rw [← hpF] at hP
    clear hi hgo
    by_cases hok : F = okF
    · subst hok
      rw [playL_ok hpF.symm] at hP
      obtain ⟨_, _, e, he⟩ := playF_ok hpF.symm
      have hlen := run_all he
      have hL : ∀ i, i ≤ plan.length → ∃ u, (s :: runT t s plan)[i]? = some u ∧ endS t s (plan.take i) = some u := by
        intro i hi
        obtain ⟨u, hu⟩ := get_some (l := s :: runT t s plan) (k := i) (by simp; omega)
        exact ⟨u, hu, by rw [← run_at t plan s i hi]; exact hu⟩
      have hll : (s :: runT t s plan).length = plan.length + 1 := by simp [hlen]
      generalize s :: runT t s plan = L at *
      have hnl : ¬ (k : Int) < plan.length := fun h => hex ⟨h, rfl⟩
      repeat (first | refine i_len rfl ?_ | refine i_s rfl ?_ | refine i_lenm rfl rfl rfl ?_ | refine c_seq ?_ | refine c_cut0 ?_ | refine c_ops ?_ | refine i_nil ?_ | refine e_seq ?_ | refine e_block ?_ | refine c_block ?_ | refine c_skip ?_ | refine c_ret ?_ | refine c_exit ?_ | refine e_exit rfl ?_ | refine i_s0 rfl ?_ | refine c_leaf ?_ | refine i_gt rfl ?_ | refine i_gf rfl ?_ | refine i_gd rfl ?_ | refine c_t rfl ?_ | refine c_f rfl ?_ | refine i_conv rfl (by simp only [InR, List.length_map]; omega) ?_ | refine i_add rfl rfl (by simp only [InR, List.length_map]; omega) ?_ | refine i_sub rfl rfl (by simp only [InR, List.length_map]; omega) ?_ | refine i_ixm rfl rfl (by assumption) ?_ | refine i_iai rfl rfl (by omega) (by assumption) rfl ?_ | refine i_iam rfl rfl (by assumption) rfl ?_ | refine i_tk rfl rfl (by omega) ?_ | refine i_stb rfl ?_ | refine i_alloc rfl ?_ | refine i_box rfl rfl ?_ | refine i_nv rfl ?_)
      refine i_gf (by show V.bool _ = V.bool _; rw [decide_eq_false hnl]; rfl) ?_
      repeat (first | refine i_len rfl ?_ | refine i_s rfl ?_ | refine i_lenm rfl rfl rfl ?_ | refine c_seq ?_ | refine c_cut0 ?_ | refine c_ops ?_ | refine i_nil ?_ | refine e_seq ?_ | refine e_block ?_ | refine c_block ?_ | refine c_skip ?_ | refine c_ret ?_ | refine c_exit ?_ | refine e_exit rfl ?_ | refine i_s0 rfl ?_ | refine c_leaf ?_ | refine i_gt rfl ?_ | refine i_gf rfl ?_ | refine i_gd rfl ?_ | refine c_t rfl ?_ | refine c_f rfl ?_ | refine i_conv rfl (by simp only [InR, List.length_map]; omega) ?_ | refine i_add rfl rfl (by simp only [InR, List.length_map]; omega) ?_ | refine i_sub rfl rfl (by simp only [InR, List.length_map]; omega) ?_ | refine i_ixm rfl rfl (by assumption) ?_ | refine i_iai rfl rfl (by omega) (by assumption) rfl ?_ | refine i_iam rfl rfl (by assumption) rfl ?_ | refine i_tk rfl rfl (by omega) ?_ | refine i_stb rfl ?_ | refine i_alloc rfl ?_ | refine i_box rfl rfl ?_ | refine i_nv rfl ?_ | refine i_f rfl rfl (hP) rfl ?_)
      refine c_for L.length (fun k => [(1, .sl .p (s.map i64V)), (2, .sl .p (plan.map i64V)), (3, .bptr 256196 0), (15, .sl .p (L.map ssV)), (17, .int .i64 k)]) (fun _ => [(256196, .box (skV t))]) (fun _ => True) trivial ⟨by repeat (first | exact trivial | refine ⟨rfl, ?_⟩), by repeat (first | exact trivial | refine ⟨rfl, ?_⟩), rfl⟩ fun i hi _ => ?_
      clear hP
      repeat (first | refine i_len rfl ?_ | refine i_s rfl ?_ | refine i_lenm rfl rfl rfl ?_ | refine c_seq ?_ | refine c_cut0 ?_ | refine c_ops ?_ | refine i_nil ?_ | refine e_seq ?_ | refine e_block ?_ | refine c_block ?_ | refine c_skip ?_ | refine c_ret ?_ | refine c_exit ?_ | refine e_exit rfl ?_ | refine i_s0 rfl ?_ | refine c_leaf ?_ | refine i_gt rfl ?_ | refine i_gf rfl ?_ | refine i_gd rfl ?_ | refine c_t rfl ?_ | refine c_f rfl ?_ | refine i_conv rfl (by simp only [InR, List.length_map]; omega) ?_ | refine i_add rfl rfl (by simp only [InR, List.length_map]; omega) ?_ | refine i_sub rfl rfl (by simp only [InR, List.length_map]; omega) ?_ | refine i_ixm rfl rfl (by assumption) ?_ | refine i_iai rfl rfl (by omega) (by assumption) rfl ?_ | refine i_iam rfl rfl (by assumption) rfl ?_ | refine i_tk rfl rfl (by omega) ?_ | refine i_stb rfl ?_ | refine i_alloc rfl ?_ | refine i_box rfl rfl ?_ | refine i_nv rfl ?_)
      refine c_cond rfl (fun h => ?_) (fun h => ?_)
      · have hlt : i < L.length := by simpa using h
        obtain ⟨u, hu, hue⟩ := hL i (by omega)
        have hE := f_R1_Ends t hv s hss (plan.take i) (by simp; omega) (fun x hx => hr x (List.mem_of_mem_take hx))
        rw [hue] at hE
        have hus := set_le hv (endS_set hv _ _ _ hss hue)
        have hIn := f_Ints_same u (by omega)
        clear h hr hL
        have hil : i ≤ plan.length := by omega
        repeat (first | refine i_len rfl ?_ | refine i_s rfl ?_ | refine i_lenm rfl rfl rfl ?_ | refine c_seq ?_ | refine c_cut0 ?_ | refine c_ops ?_ | refine i_nil ?_ | refine e_seq ?_ | refine e_block ?_ | refine c_block ?_ | refine c_skip ?_ | refine c_ret ?_ | refine c_exit ?_ | refine e_exit rfl ?_ | refine i_s0 rfl ?_ | refine c_leaf ?_ | refine i_gt rfl ?_ | refine i_gf rfl ?_ | refine i_gd rfl ?_ | refine c_t rfl ?_ | refine c_f rfl ?_ | refine i_conv rfl (by simp only [InR, List.length_map]; omega) ?_ | refine i_add rfl rfl (by simp only [InR, List.length_map]; omega) ?_ | refine i_sub rfl rfl (by simp only [InR, List.length_map]; omega) ?_ | refine i_ixm rfl rfl (by assumption) ?_ | refine i_iai rfl rfl (by omega) (by assumption) rfl ?_ | refine i_iam rfl rfl (by assumption) rfl ?_ | refine i_tk rfl rfl (by omega) ?_ | refine i_stb rfl ?_ | refine i_alloc rfl ?_ | refine i_box rfl rfl ?_ | refine i_nv rfl ?_ | refine i_f rfl rfl (hE) rfl ?_ | refine i_f rfl rfl (hIn) rfl ?_)
        exact e_for hlt trivial ⟨by repeat (first | exact trivial | refine ⟨rfl, ?_⟩), by repeat (first | exact trivial | refine ⟨rfl, ?_⟩), rfl⟩
      · have hge : i = L.length := by have : ¬ i < L.length := by simpa using h
                                      omega
        clear h
        have hfin : ((L.length : Int) == (plan.length : Int) + 1) = true := by simp; omega
        repeat (first | refine i_len rfl ?_ | refine i_s rfl ?_ | refine i_lenm rfl rfl rfl ?_ | refine c_seq ?_ | refine c_cut0 ?_ | refine c_ops ?_ | refine i_nil ?_ | refine e_seq ?_ | refine e_block ?_ | refine c_block ?_ | refine c_skip ?_ | refine c_ret ?_ | refine c_exit ?_ | refine e_exit rfl ?_ | refine i_s0 rfl ?_ | refine c_leaf ?_ | refine i_gt rfl ?_ | refine i_gf rfl ?_ | refine i_gd rfl ?_ | refine c_t rfl ?_ | refine c_f rfl ?_ | refine i_conv rfl (by simp only [InR, List.length_map]; omega) ?_ | refine i_add rfl rfl (by simp only [InR, List.length_map]; omega) ?_ | refine i_sub rfl rfl (by simp only [InR, List.length_map]; omega) ?_ | refine i_ixm rfl rfl (by assumption) ?_ | refine i_iai rfl rfl (by omega) (by assumption) rfl ?_ | refine i_iam rfl rfl (by assumption) rfl ?_ | refine i_tk rfl rfl (by omega) ?_ | refine i_stb rfl ?_ | refine i_alloc rfl ?_ | refine i_box rfl rfl ?_ | refine i_nv rfl ?_)
        exact e_ret ⟨rfl, _, rfl, congrArg V.bool hfin.symm⟩
    · have hne : F.code ≠ 0 := fun h => hok (by rw [hpF] at h ⊢; exact (play_code t s plan).1 h)
      rw [playL_bad (hpF ▸ hok)] at hP
      clear hr hpF hok
      repeat' (first | refine i_len rfl ?_ | refine i_s rfl ?_ | refine i_lenm rfl rfl rfl ?_ | refine c_seq ?_ | refine c_cut0 ?_ | refine c_ops ?_ | refine i_nil ?_ | refine e_seq ?_ | refine e_block ?_ | refine c_block ?_ | refine c_skip ?_ | refine c_ret ?_ | refine c_exit ?_ | refine e_exit rfl ?_ | refine i_s0 rfl ?_ | refine c_leaf ?_ | refine i_gt rfl ?_ | refine i_gf rfl ?_ | refine i_gd rfl ?_ | refine c_t rfl ?_ | refine c_f rfl ?_ | refine i_conv rfl (by simp only [InR, List.length_map]; omega) ?_ | refine i_add rfl rfl (by simp only [InR, List.length_map]; omega) ?_ | refine i_sub rfl rfl (by simp only [InR, List.length_map]; omega) ?_ | refine i_ixm rfl rfl (by assumption) ?_ | refine i_iai rfl rfl (by omega) (by assumption) rfl ?_ | refine i_iam rfl rfl (by assumption) rfl ?_ | refine i_tk rfl rfl (by omega) ?_ | refine i_stb rfl ?_ | refine i_alloc rfl ?_ | refine i_box rfl rfl ?_ | refine i_nv rfl ?_ | refine c_node ?_ ?_ | refine i_g rfl (fun h => ?_) (fun h => ?_) | refine c_cond rfl (fun h => ?_) (fun h => ?_) | refine i_f rfl rfl (hP) rfl ?_)
      all_goals first
        | exact e_ret ⟨rfl, _, rfl, rfl⟩
        | (exfalso; clear hP ho hv hss hst hsp hb hsf; simp at *; done)
        | (exfalso; clear hP ho hv hss hst hsp hb hsf; simp at *; omega)
        | trace_state
theorem f_L1_StripsPlansMatchSpec (t : STask) (ho : SkOk t) (s plan : List Int) (hs : s.length ≤ 140737488355328) (hl : plan.length ≤ 140737488355328) : Fc Go.Proofs.Try.prog 4 [skV t, .sl .p (s.map i64V), .sl .p (plan.map i64V)] (.bool true) := by
  by_cases h1 : stFault t s = okF
  · by_cases h2 : stepsF t.ops.length plan = okF
    · exact f_L1_StripsPlansMatchSpec_ok t ho s plan h1 h2
    · exact f_L1_StripsPlansMatchSpec_sp t ho s plan hs hl h1 h2
  · exact f_L1_StripsPlansMatchSpec_st t ho s plan hs hl h1
end Hm
end
