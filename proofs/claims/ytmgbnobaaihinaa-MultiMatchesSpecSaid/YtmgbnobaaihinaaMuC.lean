/- The law of states of multi-valued tasks answers true. -/
import Derived.Test.YtmgbnobaaihinaaMuA
section
/- The law of states of multi-valued tasks answers true. -/
namespace Hm
open Go
set_option maxRecDepth 100000
set_option maxHeartbeats 4000000
set_option linter.unusedSimpArgs false
set_option linter.unusedVariables false
def c_L1_MultiMatchesSpec : Cmd :=
  (.seq
   (.ops [
   .op (some 3) none (.box 192196 4 (.t 0)),
   .op (some 6) none (.mov (.c (.bool false)))])
   (.cut
   (.seq
   (.ops [
   .op (some 14) none (.load true 4 (.t 3)),
   .op (some 15) none (.call .f (.c (.fn 8 [])) [.t 14]),
   .op (some 7) none (.alloc 192450 (.agg [.int .i64 (0), .int .i64 (0)])),
   .op none none (.store 2 (.t 7) (.t 15))])
   (.cut
   (.seq
   (.seq
   (.ops [
   .op (some 16) none (.call .f (.c (.fn 9 [])) []),
   .op (some 17) none (.not (.t 16)),
   .op (some 18) none (.mov (.t 17)),
   .op (some 19) (some (18, false)) (.load true 4 (.t 3)),
   .op (some 20) (some (18, false)) (.call .f (.c (.fn 10 [])) [.t 19]),
   .op (some 21) (some (18, false)) (.load true 2 (.t 7)),
   .op (some 22) (some (18, false)) (.bin .neq true [.i, .i] (.t 20) (.t 21)),
   .op (some 23) none (.pick (.t 18) (.c (.bool true)) (.t 22))])
   (.cut
   (.cond (.t 23)
   (.seq
   (.ops [
   .op (some 6) none (.mov (.c (.bool false)))])
   .ret)
   .skip)))
   (.cut
   (.seq
   (.seq
   (.ops [
   .op (some 24) none (.faddr 0 (.t 7)),
   .op (some 25) none (.load false 1 (.t 24)),
   .op (some 26) none (.bin .eql false [.i] (.t 25) (.c (.int .i64 (0)))),
   .op (some 27) none (.mov (.t 26)),
   .op (some 28) (some (27, true)) (.load true 4 (.t 3)),
   .op (some 29) (some (27, true)) (.mov (.t 1)),
   .op (some 30) (some (27, true)) (.call .f (.c (.fn 11 [])) [.t 28, .t 29]),
   .op (some 31) (some (27, true)) (.not (.t 30)),
   .op (some 32) none (.pick (.t 27) (.t 31) (.c (.bool false)))])
   (.cut
   (.cond (.t 32)
   (.ops [
   .op (some 33) none (.call .f (.c (.fn 12 [])) [.c (.int .i64 (5)), .c (.int .i64 (-4))]),
   .op none none (.store 2 (.t 7) (.t 33))])
   .skip)))
   (.cut
   (.seq
   (.ops [
   .op (some 8) none (.newVec 192513)])
   (.cut
   (.seq
   (.seq
   (.ops [
   .op (some 9) none (.mov (.c (.int .i64 (0))))])
   (.cut
   (.block 0
   (.loop
   (.seq
   (.seq
   (.ops [
   .op (some 34) none (.mov (.t 9)),
   .op (some 35) none (.faddr 3 (.t 3)),
   .op (some 36) none (.load false 1 (.t 35)),
   .op (some 37) none (.len false (.t 36)),
   .op (some 38) none (.bin .lss false [] (.t 34) (.t 37)),
   .op (some 39) none (.mov (.t 38)),
   .op (some 40) (some (39, true)) (.faddr 0 (.t 7)),
   .op (some 41) (some (39, true)) (.load false 1 (.t 40)),
   .op (some 42) (some (39, true)) (.bin .eql false [.i] (.t 41) (.c (.int .i64 (0)))),
   .op (some 43) none (.pick (.t 39) (.t 42) (.c (.bool false)))])
   (.cut
   (.cond (.t 43)
   .skip
   (.exit 0))))
   (.cut
   (.seq
   (.block 1
   (.seq
   (.ops [
   .op (some 46) none (.mov (.t 1)),
   .op (some 47) none (.faddr 3 (.t 3)),
   .op (some 48) none (.load false 1 (.t 47)),
   .op (some 49) none (.mov (.t 9)),
   .op (some 50) none (.iaddr 3 (.t 48) (.t 49)),
   .op (some 51) none (.faddr 0 (.t 50)),
   .op (some 52) none (.load false 1 (.t 51)),
   .op (some 53) none (.call .f (.c (.fn 13 [])) [.t 46, .t 52])])
   (.cut
   (.cond (.t 53)
   (.ops [
   .op (some 54) none (.mov (.t 8)),
   .op (some 55) none (.mov (.t 9)),
   .op (some 56) none (.bsl 1 [.t 55]),
   .op (some 57) none (.append 1 8 (.t 54) (.t 56)),
   .op (some 8) none (.mov (.t 57))])
   .skip))))
   (.cut
   (.ops [
   .op (some 44) none (.mov (.t 9)),
   .op (some 45) none (.bin .add false [] (.t 44) (.c (.int .i64 (1)))),
   .op (some 9) none (.mov (.t 45))])))))))))
   (.cut
   (.seq
   (.ops [
   .op (some 59) none (.load true 4 (.t 3)),
   .op (some 60) none (.mov (.t 1)),
   .op (some 61) none (.call .f (.c (.fn 14 [])) [.t 59, .t 60]),
   .op (some 58) none (.mov (.t 61)),
   .op (some 62) none (.extract (.t 58) 0),
   .op (some 63) none (.extract (.t 58) 1),
   .op (some 11) none (.alloc 192706 (.agg [.int .i64 (0), .int .i64 (0)])),
   .op (some 10) none (.mov (.t 62)),
   .op none none (.store 2 (.t 11) (.t 63))])
   (.cut
   (.seq
   (.seq
   (.ops [
   .op (some 64) none (.load true 2 (.t 11)),
   .op (some 65) none (.load true 2 (.t 7)),
   .op (some 66) none (.bin .neq true [.i, .i] (.t 64) (.t 65)),
   .op (some 67) none (.mov (.t 66)),
   .op (some 68) (some (67, false)) (.mov (.t 10)),
   .op (some 69) (some (67, false)) (.mov (.t 8)),
   .op (some 70) (some (67, false)) (.call .f (.c (.fn 15 [])) [.t 68, .t 69]),
   .op (some 71) (some (67, false)) (.not (.t 70)),
   .op (some 72) none (.pick (.t 67) (.c (.bool true)) (.t 71))])
   (.cut
   (.cond (.t 72)
   (.seq
   (.ops [
   .op (some 6) none (.mov (.c (.bool false)))])
   .ret)
   .skip)))
   (.cut
   (.seq
   (.seq
   (.ops [
   .op (some 73) none (.faddr 0 (.t 7)),
   .op (some 74) none (.load false 1 (.t 73)),
   .op (some 75) none (.bin .eql false [.i] (.t 74) (.c (.int .i64 (0)))),
   .op (some 76) none (.mov (.t 75)),
   .op (some 77) (some (76, true)) (.mov (.t 2)),
   .op (some 78) (some (76, true)) (.faddr 3 (.t 3)),
   .op (some 79) (some (76, true)) (.load false 1 (.t 78)),
   .op (some 80) (some (76, true)) (.len false (.t 79)),
   .op (some 81) (some (76, true)) (.bin .sub false [] (.t 80) (.c (.int .i64 (1)))),
   .op (some 82) (some (76, true)) (.call .f (.c (.fn 16 [])) [.t 77, .c (.int .i64 (0)), .t 81]),
   .op (some 83) (some (76, true)) (.not (.t 82)),
   .op (some 84) none (.pick (.t 76) (.t 83) (.c (.bool false)))])
   (.cut
   (.cond (.t 84)
   (.ops [
   .op (some 85) none (.call .f (.c (.fn 12 [])) [.c (.int .i64 (3)), .c (.int .i64 (-6))]),
   .op none none (.store 2 (.t 7) (.t 85))])
   .skip)))
   (.cut
   (.seq
   (.seq
   (.ops [
   .op (some 86) none (.faddr 0 (.t 7)),
   .op (some 87) none (.load false 1 (.t 86)),
   .op (some 88) none (.bin .eql false [.i] (.t 87) (.c (.int .i64 (0)))),
   .op (some 89) none (.mov (.t 88)),
   .op (some 90) (some (89, true)) (.mov (.t 1)),
   .op (some 91) (some (89, true)) (.faddr 3 (.t 3)),
   .op (some 92) (some (89, true)) (.load false 1 (.t 91)),
   .op (some 93) (some (89, true)) (.mov (.t 2)),
   .op (some 94) (some (89, true)) (.iaddr 3 (.t 92) (.t 93)),
   .op (some 95) (some (89, true)) (.faddr 0 (.t 94)),
   .op (some 96) (some (89, true)) (.load false 1 (.t 95)),
   .op (some 97) (some (89, true)) (.call .f (.c (.fn 13 [])) [.t 90, .t 96]),
   .op (some 98) (some (89, true)) (.not (.t 97)),
   .op (some 99) none (.pick (.t 89) (.t 98) (.c (.bool false)))])
   (.cut
   (.cond (.t 99)
   (.ops [
   .op (some 100) none (.mov (.t 2)),
   .op (some 101) none (.call .f (.c (.fn 12 [])) [.c (.int .i64 (11)), .t 100]),
   .op none none (.store 2 (.t 7) (.t 101))])
   .skip)))
   (.cut
   (.seq
   (.ops [
   .op (some 103) none (.load true 4 (.t 3)),
   .op (some 104) none (.mov (.t 1)),
   .op (some 105) none (.mov (.t 2)),
   .op (some 106) none (.call .f (.c (.fn 17 [])) [.t 103, .t 104, .t 105]),
   .op (some 102) none (.mov (.t 106)),
   .op (some 107) none (.extract (.t 102) 0),
   .op (some 108) none (.extract (.t 102) 1),
   .op (some 13) none (.alloc 192834 (.agg [.int .i64 (0), .int .i64 (0)])),
   .op (some 12) none (.mov (.t 107)),
   .op none none (.store 2 (.t 13) (.t 108))])
   (.cut
   (.seq
   (.ops [
   .op (some 109) none (.load true 2 (.t 13)),
   .op (some 110) none (.load true 2 (.t 7)),
   .op (some 111) none (.bin .eql true [.i, .i] (.t 109) (.t 110)),
   .op (some 112) none (.mov (.t 111)),
   .op (some 113) (some (112, true)) (.faddr 0 (.t 7)),
   .op (some 114) (some (112, true)) (.load false 1 (.t 113)),
   .op (some 115) (some (112, true)) (.bin .neq false [.i] (.t 114) (.c (.int .i64 (0)))),
   .op (some 116) (some (112, true)) (.mov (.t 115)),
   .op (some 117) (some (116, true)) (.mov (.t 12)),
   .op (some 118) (some (116, true)) (.len false (.t 117)),
   .op (some 119) (some (116, true)) (.bin .eql false [.i] (.t 118) (.c (.int .i64 (0)))),
   .op (some 120) (some (112, true)) (.pick (.t 116) (.t 119) (.c (.bool false))),
   .op (some 121) (some (112, true)) (.mov (.t 120)),
   .op (some 122) (some (121, false)) (.faddr 0 (.t 7)),
   .op (some 123) (some (121, false)) (.load false 1 (.t 122)),
   .op (some 124) (some (121, false)) (.bin .eql false [.i] (.t 123) (.c (.int .i64 (0)))),
   .op (some 125) (some (121, false)) (.mov (.t 124)),
   .op (some 126) (some (125, true)) (.mov (.t 12)),
   .op (some 127) (some (125, true)) (.load true 4 (.t 3)),
   .op (some 128) (some (125, true)) (.mov (.t 1)),
   .op (some 129) (some (125, true)) (.mov (.t 2)),
   .op (some 130) (some (125, true)) (.call .f (.c (.fn 18 [])) [.t 127, .t 128, .t 129]),
   .op (some 131) (some (125, true)) (.call .f (.c (.fn 15 [])) [.t 126, .t 130]),
   .op (some 132) (some (121, false)) (.pick (.t 125) (.t 131) (.c (.bool false))),
   .op (some 133) (some (112, true)) (.pick (.t 121) (.c (.bool true)) (.t 132)),
   .op (some 134) none (.pick (.t 112) (.t 133) (.c (.bool false))),
   .op (some 6) none (.mov (.t 134))])
   .ret)))))))))))))))))))))))
def r_L1_MultiMatchesSpec : List RVar := [.tmp 6]
def n_L1_MultiMatchesSpec : Nat := 135
theorem k_L1_MultiMatchesSpec : chkFn Go.Proofs.Try.prog 3 n_L1_MultiMatchesSpec r_L1_MultiMatchesSpec c_L1_MultiMatchesSpec = true := by kernel_rfl
theorem f_L1_MultiMatchesSpec_bad (m : MTask) (ho : MOk m) (s : List Int) (hs : s.length ≤ 17592186044416) (op : Int) (hb : mStFault m s ≠ okF) : Fc Go.Proofs.Try.prog 3 [mtV m, .sl .p (s.map i64V), .int .i64 op] (.bool true) := by
  have hF := f_R1_MultiFault m ho
  have hT := f_L1_turns
  have hV := f_multi_Validate m ho
  have h1 := f_multi_Applicable_bad m ho s (by omega) hb
  have h2 := f_multi_Apply_bad m ho s (by omega) op hb
  have h3 := f_Ints_eq [] (by decide)
  by_cases hm : mFault m = okF
  · have hst : stB m.sizes s = false := by
      cases h : stB m.sizes s with
      | false => rfl
      | true => exact absurd (by rw [mStFault, if_pos hm, if_pos h]) hb
    have hS := f_R1_MultiState m s (by omega) (mFault_ok hm).rng
    rw [hst] at hS
    rw [mStFault, if_pos hm, if_neg (by simp [hst])] at h1 h2
    rw [hm] at hF hV
    clear hb
    refine Fn.step mixed k_L1_MultiMatchesSpec ?_
    repeat' (first | refine i_len rfl ?_ | refine i_s rfl ?_ | refine i_lenm rfl rfl rfl ?_ | refine c_seq ?_ | refine c_cut0 ?_ | refine c_ops ?_ | refine i_nil ?_ | refine e_seq ?_ | refine e_block ?_ | refine c_block ?_ | refine c_skip ?_ | refine c_ret ?_ | refine c_exit ?_ | refine e_exit rfl ?_ | refine i_s0 rfl ?_ | refine c_leaf ?_ | refine i_gt rfl ?_ | refine i_gf rfl ?_ | refine i_gd rfl ?_ | refine c_t rfl ?_ | refine c_f rfl ?_ | refine i_conv rfl (by simp only [InR, List.length_map]; omega) ?_ | refine i_add rfl rfl (by simp only [InR, List.length_map]; omega) ?_ | refine i_sub rfl rfl (by simp only [InR, List.length_map]; omega) ?_ | refine i_ixm rfl rfl (by assumption) ?_ | refine i_iai rfl rfl (by omega) (by assumption) rfl ?_ | refine i_iam rfl rfl (by assumption) rfl ?_ | refine i_tk rfl rfl (by omega) ?_ | refine i_stb rfl ?_ | refine i_alloc rfl ?_ | refine i_box rfl rfl ?_ | refine i_nv rfl ?_ | refine c_node ?_ ?_ | refine i_g rfl (fun h => ?_) (fun h => ?_) | refine c_cond rfl (fun h => ?_) (fun h => ?_) | refine i_f rfl rfl (hF) rfl ?_ | refine i_f rfl rfl (hT) rfl ?_ | refine i_f rfl rfl (hV) rfl ?_ | refine i_f rfl rfl (hS) rfl ?_ | refine i_f rfl rfl (f_R1_At _ _) rfl ?_)
    refine c_for 0 (fun k => [(1, .sl .p (s.map i64V)), (2, .int .i64 op), (3, .bptr 192196 0), (7, .bptr 192450 0), (8, .sl (.own 192513) []), (9, .int .i64 k)]) (fun _ => [(192196, .box (mtV m)), (192450, .box (ftV ⟨5, -4⟩)), (192513, .vec 0)]) (fun _ => True) trivial ⟨by repeat (first | exact trivial | refine ⟨rfl, ?_⟩), by repeat (first | exact trivial | refine ⟨rfl, ?_⟩), rfl⟩ fun k hk _ => ?_
    have hk0 : k = 0 := by omega
    subst hk0
    clear hF hV hS
    repeat' (first | refine i_len rfl ?_ | refine i_s rfl ?_ | refine i_lenm rfl rfl rfl ?_ | refine c_seq ?_ | refine c_cut0 ?_ | refine c_ops ?_ | refine i_nil ?_ | refine e_seq ?_ | refine e_block ?_ | refine c_block ?_ | refine c_skip ?_ | refine c_ret ?_ | refine c_exit ?_ | refine e_exit rfl ?_ | refine i_s0 rfl ?_ | refine c_leaf ?_ | refine i_gt rfl ?_ | refine i_gf rfl ?_ | refine i_gd rfl ?_ | refine c_t rfl ?_ | refine c_f rfl ?_ | refine i_conv rfl (by simp only [InR, List.length_map]; omega) ?_ | refine i_add rfl rfl (by simp only [InR, List.length_map]; omega) ?_ | refine i_sub rfl rfl (by simp only [InR, List.length_map]; omega) ?_ | refine i_ixm rfl rfl (by assumption) ?_ | refine i_iai rfl rfl (by omega) (by assumption) rfl ?_ | refine i_iam rfl rfl (by assumption) rfl ?_ | refine i_tk rfl rfl (by omega) ?_ | refine i_stb rfl ?_ | refine i_alloc rfl ?_ | refine i_box rfl rfl ?_ | refine i_nv rfl ?_ | refine c_node ?_ ?_ | refine i_g rfl (fun h => ?_) (fun h => ?_) | refine c_cond rfl (fun h => ?_) (fun h => ?_) | refine i_f rfl rfl (hT) rfl ?_ | refine i_f rfl rfl (h1) rfl ?_ | refine i_f rfl rfl (h2) rfl ?_ | refine i_f rfl rfl (h3) rfl ?_)
    clear hT h1 h2 h3 ho
    all_goals first | (refine e_ret ⟨rfl, _, rfl, congrArg V.bool ?_⟩; first | rfl | grind) | (exfalso; grind)
  · have hne : (mFault m).code ≠ 0 := fun h => hm ((mFault_iff m).1 h)
    rw [mStFault, if_neg hm] at h1 h2
    clear hb hm
    generalize mFault m = F at *
    refine Fn.step mixed k_L1_MultiMatchesSpec ?_
    repeat' (first | refine i_len rfl ?_ | refine i_s rfl ?_ | refine i_lenm rfl rfl rfl ?_ | refine c_seq ?_ | refine c_cut0 ?_ | refine c_ops ?_ | refine i_nil ?_ | refine e_seq ?_ | refine e_block ?_ | refine c_block ?_ | refine c_skip ?_ | refine c_ret ?_ | refine c_exit ?_ | refine e_exit rfl ?_ | refine i_s0 rfl ?_ | refine c_leaf ?_ | refine i_gt rfl ?_ | refine i_gf rfl ?_ | refine i_gd rfl ?_ | refine c_t rfl ?_ | refine c_f rfl ?_ | refine i_conv rfl (by simp only [InR, List.length_map]; omega) ?_ | refine i_add rfl rfl (by simp only [InR, List.length_map]; omega) ?_ | refine i_sub rfl rfl (by simp only [InR, List.length_map]; omega) ?_ | refine i_ixm rfl rfl (by assumption) ?_ | refine i_iai rfl rfl (by omega) (by assumption) rfl ?_ | refine i_iam rfl rfl (by assumption) rfl ?_ | refine i_tk rfl rfl (by omega) ?_ | refine i_stb rfl ?_ | refine i_alloc rfl ?_ | refine i_box rfl rfl ?_ | refine i_nv rfl ?_ | refine c_node ?_ ?_ | refine i_g rfl (fun h => ?_) (fun h => ?_) | refine c_cond rfl (fun h => ?_) (fun h => ?_) | refine i_f rfl rfl (hF) rfl ?_ | refine i_f rfl rfl (hT) rfl ?_ | refine i_f rfl rfl (hV) rfl ?_)
    all_goals first | (exfalso; clear hF hT hV h1 h2 h3 ho; grind) | skip
    refine c_for 0 (fun k => [(1, .sl .p (s.map i64V)), (2, .int .i64 op), (3, .bptr 192196 0), (7, .bptr 192450 0), (8, .sl (.own 192513) []), (9, .int .i64 k)]) (fun _ => [(192196, .box (mtV m)), (192450, .box (ftV F)), (192513, .vec 0)]) (fun _ => True) trivial ⟨by repeat (first | exact trivial | refine ⟨rfl, ?_⟩), by repeat (first | exact trivial | refine ⟨rfl, ?_⟩), rfl⟩ fun k hk _ => ?_
    have hk0 : k = 0 := by omega
    subst hk0
    clear hF hV
    repeat' (first | refine i_len rfl ?_ | refine i_s rfl ?_ | refine i_lenm rfl rfl rfl ?_ | refine c_seq ?_ | refine c_cut0 ?_ | refine c_ops ?_ | refine i_nil ?_ | refine e_seq ?_ | refine e_block ?_ | refine c_block ?_ | refine c_skip ?_ | refine c_ret ?_ | refine c_exit ?_ | refine e_exit rfl ?_ | refine i_s0 rfl ?_ | refine c_leaf ?_ | refine i_gt rfl ?_ | refine i_gf rfl ?_ | refine i_gd rfl ?_ | refine c_t rfl ?_ | refine c_f rfl ?_ | refine i_conv rfl (by simp only [InR, List.length_map]; omega) ?_ | refine i_add rfl rfl (by simp only [InR, List.length_map]; omega) ?_ | refine i_sub rfl rfl (by simp only [InR, List.length_map]; omega) ?_ | refine i_ixm rfl rfl (by assumption) ?_ | refine i_iai rfl rfl (by omega) (by assumption) rfl ?_ | refine i_iam rfl rfl (by assumption) rfl ?_ | refine i_tk rfl rfl (by omega) ?_ | refine i_stb rfl ?_ | refine i_alloc rfl ?_ | refine i_box rfl rfl ?_ | refine i_nv rfl ?_ | refine c_node ?_ ?_ | refine i_g rfl (fun h => ?_) (fun h => ?_) | refine c_cond rfl (fun h => ?_) (fun h => ?_) | refine i_f rfl rfl (hT) rfl ?_ | refine i_f rfl rfl (h1) rfl ?_ | refine i_f rfl rfl (h2) rfl ?_ | refine i_f rfl rfl (h3) rfl ?_)
    clear hT h1 h2 h3 ho
    all_goals first | (refine e_ret ⟨rfl, _, rfl, congrArg V.bool ?_⟩; first | rfl | grind) | (exfalso; grind)
theorem f_L1_MultiMatchesSpec_ok (m : MTask) (ho : MOk m) (s : List Int) (hs : s.length ≤ 17592186044416) (op : Int) (hb : mStFault m s = okF) : Fc Go.Proofs.Try.prog 3 [mtV m, .sl .p (s.map i64V), .int .i64 op] (.bool true) := by
  have hm : mFault m = okF := by
    by_cases h : mFault m = okF
    · exact h
    · rw [mStFault, if_neg h] at hb; exact absurd hb h
  have hv := mFault_ok hm
  have hst : stB m.sizes s = true := by
    cases h : stB m.sizes s with
    | true => rfl
    | false => rw [mStFault, if_pos hm, if_neg (by simp [h])] at hb; cases hb
  have hF := f_R1_MultiFault m ho
  have hT := f_L1_turns
  have hV := f_multi_Validate m ho
  rw [hm] at hF hV
  have hS := f_R1_MultiState m s (by omega) hv.rng
  rw [hst] at hS
  have hsl := stB_len hst
  have hl8 := hv.len
  have hl40 := hv.opl
  have h1 := f_multi_Applicable_ok m ho s hv hst hb
  have hal : (appL m s).length ≤ 40 := by have := selK_len (appAt m s) m.ops.length; unfold appL; omega
  have h3 := f_Ints_eq (appL m s) (by omega)
  refine Fn.step mixed k_L1_MultiMatchesSpec ?_
  repeat' (first | refine i_len rfl ?_ | refine i_s rfl ?_ | refine i_lenm rfl rfl rfl ?_ | refine c_seq ?_ | refine c_cut0 ?_ | refine c_ops ?_ | refine i_nil ?_ | refine e_seq ?_ | refine e_block ?_ | refine c_block ?_ | refine c_skip ?_ | refine c_ret ?_ | refine c_exit ?_ | refine e_exit rfl ?_ | refine i_s0 rfl ?_ | refine c_leaf ?_ | refine i_gt rfl ?_ | refine i_gf rfl ?_ | refine i_gd rfl ?_ | refine c_t rfl ?_ | refine c_f rfl ?_ | refine i_conv rfl (by simp only [InR, List.length_map]; omega) ?_ | refine i_add rfl rfl (by simp only [InR, List.length_map]; omega) ?_ | refine i_sub rfl rfl (by simp only [InR, List.length_map]; omega) ?_ | refine i_ixm rfl rfl (by assumption) ?_ | refine i_iai rfl rfl (by omega) (by assumption) rfl ?_ | refine i_iam rfl rfl (by assumption) rfl ?_ | refine i_tk rfl rfl (by omega) ?_ | refine i_stb rfl ?_ | refine i_alloc rfl ?_ | refine i_box rfl rfl ?_ | refine i_nv rfl ?_ | refine c_node ?_ ?_ | refine i_g rfl (fun h => ?_) (fun h => ?_) | refine c_cond rfl (fun h => ?_) (fun h => ?_) | refine i_f rfl rfl (hF) rfl ?_ | refine i_f rfl rfl (hT) rfl ?_ | refine i_f rfl rfl (hV) rfl ?_ | refine i_f rfl rfl (hS) rfl ?_)
  refine c_for m.ops.length (fun k => [(1, .sl .p (s.map i64V)), (2, .int .i64 op), (3, .bptr 192196 0), (7, .bptr 192450 0), (8, .sl (.own 192513) ((selK (appAt m s) k).map i64V)), (9, .int .i64 k)]) (fun k => [(192196, .box (mtV m)), (192450, .box (ftV okF)), (192513, .vec (selK (appAt m s) k).length)]) (fun _ => True) trivial ⟨by repeat (first | exact trivial | refine ⟨rfl, ?_⟩), by repeat (first | exact trivial | refine ⟨rfl, ?_⟩), rfl⟩ fun k hk _ => ?_
  have hml := selK_len (appAt m s) k
  clear hF hV hS
  repeat (first | refine i_len rfl ?_ | refine i_s rfl ?_ | refine i_lenm rfl rfl rfl ?_ | refine c_seq ?_ | refine c_cut0 ?_ | refine c_ops ?_ | refine i_nil ?_ | refine e_seq ?_ | refine e_block ?_ | refine c_block ?_ | refine c_skip ?_ | refine c_ret ?_ | refine c_exit ?_ | refine e_exit rfl ?_ | refine i_s0 rfl ?_ | refine c_leaf ?_ | refine i_gt rfl ?_ | refine i_gf rfl ?_ | refine i_gd rfl ?_ | refine c_t rfl ?_ | refine c_f rfl ?_ | refine i_conv rfl (by simp only [InR, List.length_map]; omega) ?_ | refine i_add rfl rfl (by simp only [InR, List.length_map]; omega) ?_ | refine i_sub rfl rfl (by simp only [InR, List.length_map]; omega) ?_ | refine i_ixm rfl rfl (by assumption) ?_ | refine i_iai rfl rfl (by omega) (by assumption) rfl ?_ | refine i_iam rfl rfl (by assumption) rfl ?_ | refine i_tk rfl rfl (by omega) ?_ | refine i_stb rfl ?_ | refine i_alloc rfl ?_ | refine i_box rfl rfl ?_ | refine i_nv rfl ?_)
  refine i_g rfl (fun h => ?_) (fun h => ?_)
  · have hlt : k < m.ops.length := by simpa using h
    obtain ⟨o, hc⟩ := get_some hlt
    have hat : appAt m s k = holds s o.pre := by simp [appAt, hc]
    have hH := f_R1_MultiHolds s o.pre (ho.2.2.2.2 o (mem_get hc)).1 (hsl ▸ asB_in (hv.op o (mem_get hc)).1)
    rw [← hat] at hH
    clear h hT h1 h3
    repeat' (first | refine i_len rfl ?_ | refine i_s rfl ?_ | refine i_lenm rfl rfl rfl ?_ | refine c_seq ?_ | refine c_cut0 ?_ | refine c_ops ?_ | refine i_nil ?_ | refine e_seq ?_ | refine e_block ?_ | refine c_block ?_ | refine c_skip ?_ | refine c_ret ?_ | refine c_exit ?_ | refine e_exit rfl ?_ | refine i_s0 rfl ?_ | refine c_leaf ?_ | refine i_gt rfl ?_ | refine i_gf rfl ?_ | refine i_gd rfl ?_ | refine c_t rfl ?_ | refine c_f rfl ?_ | refine i_conv rfl (by simp only [InR, List.length_map]; omega) ?_ | refine i_add rfl rfl (by simp only [InR, List.length_map]; omega) ?_ | refine i_sub rfl rfl (by simp only [InR, List.length_map]; omega) ?_ | refine i_ixm rfl rfl (by assumption) ?_ | refine i_iai rfl rfl (by omega) (by assumption) rfl ?_ | refine i_iam rfl rfl (by assumption) rfl ?_ | refine i_tk rfl rfl (by omega) ?_ | refine i_stb rfl ?_ | refine i_alloc rfl ?_ | refine i_box rfl rfl ?_ | refine i_nv rfl ?_ | refine c_node ?_ ?_ | refine i_g rfl (fun h => ?_) (fun h => ?_) | refine c_cond rfl (fun h => ?_) (fun h => ?_) | refine i_f rfl rfl (hH) rfl ?_)
    · refine i_appM rfl rfl rfl rfl rfl (by omega) (by omega) ?_
      repeat' (first | refine i_len rfl ?_ | refine i_s rfl ?_ | refine i_lenm rfl rfl rfl ?_ | refine c_seq ?_ | refine c_cut0 ?_ | refine c_ops ?_ | refine i_nil ?_ | refine e_seq ?_ | refine e_block ?_ | refine c_block ?_ | refine c_skip ?_ | refine c_ret ?_ | refine c_exit ?_ | refine e_exit rfl ?_ | refine i_s0 rfl ?_ | refine c_leaf ?_ | refine i_gt rfl ?_ | refine i_gf rfl ?_ | refine i_gd rfl ?_ | refine c_t rfl ?_ | refine c_f rfl ?_ | refine i_conv rfl (by simp only [InR, List.length_map]; omega) ?_ | refine i_add rfl rfl (by simp only [InR, List.length_map]; omega) ?_ | refine i_sub rfl rfl (by simp only [InR, List.length_map]; omega) ?_ | refine i_ixm rfl rfl (by assumption) ?_ | refine i_iai rfl rfl (by omega) (by assumption) rfl ?_ | refine i_iam rfl rfl (by assumption) rfl ?_ | refine i_tk rfl rfl (by omega) ?_ | refine i_stb rfl ?_ | refine i_alloc rfl ?_ | refine i_box rfl rfl ?_ | refine i_nv rfl ?_ | refine c_node ?_ ?_ | refine i_g rfl (fun h => ?_) (fun h => ?_) | refine c_cond rfl (fun h => ?_) (fun h => ?_))
      refine e_for hlt trivial ⟨⟨rfl, rfl, rfl, rfl, ?_, rfl, trivial⟩, ⟨rfl, rfl, ?_, trivial⟩, rfl⟩
      · rw [selK_succ, if_pos h]; rfl
      · rw [selK_succ, if_pos h]; simp; rfl
    · refine e_for hlt trivial ⟨⟨rfl, rfl, rfl, rfl, ?_, rfl, trivial⟩, ⟨rfl, rfl, ?_, trivial⟩, rfl⟩
      · rw [selK_succ, if_neg (by simp [h])]; simp; rfl
      · rw [selK_succ, if_neg (by simp [h])]; simp; rfl
  · have hge : k = m.ops.length := by have : ¬ k < m.ops.length := by simpa using h
                                      omega
    subst hge
    clear h hml hk
    change Fc _ _ _ (.tup [.sl .p ((selK (appAt m s) m.ops.length).map i64V), _]) at h1
    change Fc _ _ [.sl .p ((selK (appAt m s) m.ops.length).map i64V), .sl .p ((selK (appAt m s) m.ops.length).map i64V)] _ at h3
    by_cases hr : 0 ≤ op ∧ op < m.ops.length
    · obtain ⟨o, hc⟩ := get_some (l := m.ops) (k := op.toNat) (by omega)
      obtain ⟨q1, q2⟩ := ho.2.2.2.2 o (mem_get hc)
      have hI : Fc Go.Proofs.Try.prog 16 [.int .i64 op, .int .i64 0, .int .i64 ((m.ops.length : Int) - 1)] (.bool true) := by
        have := f_R1_In op 0 ((m.ops.length : Int) - 1)
        rwa [show (decide (0 ≤ op) && decide (op ≤ (m.ops.length : Int) - 1)) = true from by simp; omega] at this
      have hH := f_R1_MultiHolds s o.pre q1 (hsl ▸ asB_in (hv.op o (mem_get hc)).1)
      have hA := f_multi_Apply_ok m ho s hv hst hb op hr.1 hr.2 o hc
      obtain ⟨r0, r1⟩ := hr
      cases hh : holds s o.pre with
      | true =>
        rw [hh] at hH
        rw [if_pos hh] at hA
        have hN := f_R1_MultiAfter m s hs op r0 o hc q2 (hsl ▸ asB_in (hv.op o (mem_get hc)).2.1)
        have hls : (setAll s o.post).length = s.length := setAll_len s o.post
        have h4 := f_Ints_eq (setAll s o.post) (by omega)
        clear hv hsl
        repeat' (first | refine i_len rfl ?_ | refine i_s rfl ?_ | refine i_lenm rfl rfl rfl ?_ | refine c_seq ?_ | refine c_cut0 ?_ | refine c_ops ?_ | refine i_nil ?_ | refine e_seq ?_ | refine e_block ?_ | refine c_block ?_ | refine c_skip ?_ | refine c_ret ?_ | refine c_exit ?_ | refine e_exit rfl ?_ | refine i_s0 rfl ?_ | refine c_leaf ?_ | refine i_gt rfl ?_ | refine i_gf rfl ?_ | refine i_gd rfl ?_ | refine c_t rfl ?_ | refine c_f rfl ?_ | refine i_conv rfl (by simp only [InR, List.length_map]; omega) ?_ | refine i_add rfl rfl (by simp only [InR, List.length_map]; omega) ?_ | refine i_sub rfl rfl (by simp only [InR, List.length_map]; omega) ?_ | refine i_ixm rfl rfl (by assumption) ?_ | refine i_iai rfl rfl (by omega) (by assumption) rfl ?_ | refine i_iam rfl rfl (by assumption) rfl ?_ | refine i_tk rfl rfl (by omega) ?_ | refine i_stb rfl ?_ | refine i_alloc rfl ?_ | refine i_box rfl rfl ?_ | refine i_nv rfl ?_ | refine c_node ?_ ?_ | refine i_g rfl (fun h => ?_) (fun h => ?_) | refine c_cond rfl (fun h => ?_) (fun h => ?_) | refine i_f rfl rfl (hT) rfl ?_ | refine i_f rfl rfl (h1) rfl ?_ | refine i_f rfl rfl (h3) rfl ?_ | refine i_f rfl rfl (hI) rfl ?_ | refine i_f rfl rfl (hH) rfl ?_ | refine i_f rfl rfl (hA) rfl ?_ | refine i_f rfl rfl (hN) rfl ?_ | refine i_f rfl rfl (h4) rfl ?_)
        clear hT h1 h3 hI hH hA hN h4 ho
        all_goals first | (refine e_ret ⟨rfl, _, rfl, congrArg V.bool ?_⟩; first | rfl | grind) | (exfalso; grind)
      | false =>
        rw [hh] at hH
        rw [if_neg (by simp [hh])] at hA
        clear hv hsl
        repeat' (first | refine i_len rfl ?_ | refine i_s rfl ?_ | refine i_lenm rfl rfl rfl ?_ | refine c_seq ?_ | refine c_cut0 ?_ | refine c_ops ?_ | refine i_nil ?_ | refine e_seq ?_ | refine e_block ?_ | refine c_block ?_ | refine c_skip ?_ | refine c_ret ?_ | refine c_exit ?_ | refine e_exit rfl ?_ | refine i_s0 rfl ?_ | refine c_leaf ?_ | refine i_gt rfl ?_ | refine i_gf rfl ?_ | refine i_gd rfl ?_ | refine c_t rfl ?_ | refine c_f rfl ?_ | refine i_conv rfl (by simp only [InR, List.length_map]; omega) ?_ | refine i_add rfl rfl (by simp only [InR, List.length_map]; omega) ?_ | refine i_sub rfl rfl (by simp only [InR, List.length_map]; omega) ?_ | refine i_ixm rfl rfl (by assumption) ?_ | refine i_iai rfl rfl (by omega) (by assumption) rfl ?_ | refine i_iam rfl rfl (by assumption) rfl ?_ | refine i_tk rfl rfl (by omega) ?_ | refine i_stb rfl ?_ | refine i_alloc rfl ?_ | refine i_box rfl rfl ?_ | refine i_nv rfl ?_ | refine c_node ?_ ?_ | refine i_g rfl (fun h => ?_) (fun h => ?_) | refine c_cond rfl (fun h => ?_) (fun h => ?_) | refine i_f rfl rfl (hT) rfl ?_ | refine i_f rfl rfl (h1) rfl ?_ | refine i_f rfl rfl (h3) rfl ?_ | refine i_f rfl rfl (hI) rfl ?_ | refine i_f rfl rfl (hH) rfl ?_ | refine i_f rfl rfl (hA) rfl ?_ | refine i_f rfl rfl (f_R1_At _ _) rfl ?_)
        clear hT h1 h3 hI hH hA ho
        all_goals first | (refine e_ret ⟨rfl, _, rfl, congrArg V.bool ?_⟩; first | rfl | grind) | (exfalso; grind)
    · have hI : Fc Go.Proofs.Try.prog 16 [.int .i64 op, .int .i64 0, .int .i64 ((m.ops.length : Int) - 1)] (.bool false) := by
        have := f_R1_In op 0 ((m.ops.length : Int) - 1)
        rwa [show (decide (0 ≤ op) && decide (op ≤ (m.ops.length : Int) - 1)) = false from by
          cases h : (decide (0 ≤ op) && decide (op ≤ (m.ops.length : Int) - 1)) with
          | false => rfl
          | true => simp at h; omega] at this
      have hA := f_multi_Apply_rng m ho s (by omega) op hb hr
      clear hv hsl
      repeat' (first | refine i_len rfl ?_ | refine i_s rfl ?_ | refine i_lenm rfl rfl rfl ?_ | refine c_seq ?_ | refine c_cut0 ?_ | refine c_ops ?_ | refine i_nil ?_ | refine e_seq ?_ | refine e_block ?_ | refine c_block ?_ | refine c_skip ?_ | refine c_ret ?_ | refine c_exit ?_ | refine e_exit rfl ?_ | refine i_s0 rfl ?_ | refine c_leaf ?_ | refine i_gt rfl ?_ | refine i_gf rfl ?_ | refine i_gd rfl ?_ | refine c_t rfl ?_ | refine c_f rfl ?_ | refine i_conv rfl (by simp only [InR, List.length_map]; omega) ?_ | refine i_add rfl rfl (by simp only [InR, List.length_map]; omega) ?_ | refine i_sub rfl rfl (by simp only [InR, List.length_map]; omega) ?_ | refine i_ixm rfl rfl (by assumption) ?_ | refine i_iai rfl rfl (by omega) (by assumption) rfl ?_ | refine i_iam rfl rfl (by assumption) rfl ?_ | refine i_tk rfl rfl (by omega) ?_ | refine i_stb rfl ?_ | refine i_alloc rfl ?_ | refine i_box rfl rfl ?_ | refine i_nv rfl ?_ | refine c_node ?_ ?_ | refine i_g rfl (fun h => ?_) (fun h => ?_) | refine c_cond rfl (fun h => ?_) (fun h => ?_) | refine i_f rfl rfl (hT) rfl ?_ | refine i_f rfl rfl (h1) rfl ?_ | refine i_f rfl rfl (h3) rfl ?_ | refine i_f rfl rfl (hI) rfl ?_ | refine i_f rfl rfl (hA) rfl ?_ | refine i_f rfl rfl (f_R1_At _ _) rfl ?_)
      clear hT h1 h3 hI hA ho
      all_goals first | (refine e_ret ⟨rfl, _, rfl, congrArg V.bool ?_⟩; first | rfl | grind) | (exfalso; grind)
theorem f_L1_MultiMatchesSpec (m : MTask) (ho : MOk m) (s : List Int) (hs : s.length ≤ 17592186044416) (op : Int) : Fc Go.Proofs.Try.prog 3 [mtV m, .sl .p (s.map i64V), .int .i64 op] (.bool true) := by
  by_cases hb : mStFault m s = okF
  · exact f_L1_MultiMatchesSpec_ok m ho s hs op hb
  · exact f_L1_MultiMatchesSpec_bad m ho s hs op hb
end Hm
end
